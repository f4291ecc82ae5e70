import PyProof.Rows.All
import HandS.ForExc
import HandS.Comp
import HandS.Dict
import HandS.Iter
import HandS.Walk
import HandS.Text
import HandS.Deep
import HandS.IsInst
import HandS.Lambda
import HandS.Flow
import HandS.TupAny
import HandS.List
import HandS.TupMul
import HandS.Wide
import HandS.Style
import HandS.Conv
import HandS.SortInts
import HandS.RaiseMore
import HandS.TupLen
import HandS.WordsDict
import HandS.More
import KE.GoesMore
import HandS.Defaults
import HandS.Words
import HandS.WordsExc
import HandS.Strs
import HandS.Ends
import HandS.HeadEnd
import HandS.EndBits
import HandS.HeadHook4
import PySem.Challenge.RW_nestsay_k12_forms_bent_and_judged
import KE.KStateDown
import HandS.Head0
import HandS.Head1
import HandS.Head2
import HandS.HeadHook1
import HandS.HeadHook2
import HandS.HeadHook3
set_option Elab.async false
set_option linter.all false
set_option maxRecDepth 100000
set_option maxHeartbeats 2000000
/-! DnCore: a functional reading of a body: pure values, a store of what may change, and how they stand in the layer's heap. -/
namespace DN
open PySem PySem.Spec PyProof.Rows L2
abbrev St := L2.St
/-- a tuple of the written part -/
def KT (K : PySem.W.Frag) (a : Addr) (xs : List V) : Prop :=
  ∃ (o : Obj) (its : Array Value) (n : Nat), K.lookup a = some o ∧ o.cls = .type "tuple" ∧ o.data = .seq its n ∧ its.size ≤ sizeLine ∧ Vals xs its.toList
/-- the tables of code objects; the lists that are being made (nobody has them yet) -/
structure TR where
  tabs : List (Addr × Str)
  res : List Addr
/-- it is no object of the store, no list in the making -/
def Out (T : TR) (ρ : List Addr) (a : Addr) : Prop := a ∉ ρ ∧ a ∉ T.res
def LV (T : TR) (ρ : List Addr) (H : Hp) (a : Addr) (xs : List V) : Prop := Rd H a (.lst xs) ∧ Out T ρ a
/-- a tuple, as it is or with its object -/
def TU : HO → Prop
  | .tup _ => True
  | .frz _ (.tup _) => True
  | _ => False
structure PlT (o : Obj) : Prop where
  cls : o.cls = .type "tuple"
  dict : o.dict = none
def mkT (b : Bool) (o : Obj) (xs : List V) : HO := match b with
  | true => .frz o (.tup xs)
  | false => .tup xs
theorem mkT_tu (b : Bool) (o : Obj) (xs : List V) : TU (mkT b o xs) := by cases b <;> trivial
/-- a tuple: a written one, or one that the heap tells (f: with its object) -/
def TV (K : PySem.W.Frag) (H : Hp) (w f : Bool) (a : Addr) (xs : List V) : Prop := (∃ o, PlT o ∧ H a = some (mkT f o xs)) ∨ (w = true ∧ KT K a xs)

/-! ### values, store, results -/
/-- a pure value; lst, dK, dT: a list, a dict (keys ints and texts; tuples of these) that nobody changes any more; ref: the n-th object of the store; con: what the module's name holds -/
inductive PV where
  | non | bl (b : Bool) | int (i : Int) | str (x : Str)
  | tup (l : List PV) | lst (l : List PV) | dK (ks : List Key) (vs : List PV) | dT (ks : List (List Key)) (vs : List PV)
  | ref (n : Nat) | con (x : Str) | ty (n : String)
  /-- the law's script -/
  | scr (l : List PV)
/-- an object that may change -/
inductive SO where
  | lst (l : List PV) | dK (es : List (Key × PV)) | dT (es : List (List Key × PV)) | ins (C : Str) (fs : List (Str × PV))
abbrev Store := List SO
inductive Res (α : Type) where
  | ok (a : α) (st : Store)
  | exc (c : Str) (w : PV) (st : Store)
  | fail
abbrev M (α : Type) := Store → Res α
def Res.bind {α β : Type} (r : Res α) (k : α → Store → Res β) : Res β := match r with
  | .ok a st => k a st
  | .exc c w st => .exc c w st
  | .fail => .fail
abbrev AE := List (Option PV)

/-- the tuples that may be written ones -/
def isW : List PV → Bool
  | [.str x, .int 0] => decide (x = ("apart" : Str))
  | [.str x, .str y] => decide (x = ("yes" : Str)) && decide (y = ("no" : Str))
  | .str _ :: .str _ :: .str _ :: _ => true
  | _ => false
/-- the tuples of which the object is known -/
def isF : List PV → Bool
  | .tup [.str x, .int 0] :: _ => decide (x = ("apart" : Str))
  | _ => false
structure DG where
  K : PySem.W.Frag
  mg : Str → Option Value
  T : TR
abbrev gOf (X : Cx) (T : TR) : DG := ⟨X.K, X.mg, T⟩
def kpv : Key → PV
  | .inl i => .int i
  | .inr x => .str x

/-! ### a pure value in the heap -/
mutual
inductive Rl (G : DG) (ρ : List Addr) (H : Hp) : PV → V → Prop where
  | non : Rl G ρ H .non .non
  | bl (b : Bool) : Rl G ρ H (.bl b) (.bl b)
  | int (i : Int) : Rl G ρ H (.int i) (.int i)
  | str (x : Str) : Rl G ρ H (.str x) (.str x)
  | ty (n : String) : Rl G ρ H (.ty n) (.ty n)
  | tup {a : Addr} {l : List PV} {xs : List V} : TV G.K H (isW l) (isF l) a xs → RlAll G ρ H l xs → Rl G ρ H (.tup l) (.ref a)
  | lst {a : Addr} {l : List PV} {xs : List V} : LV G.T ρ H a xs → RlAll G ρ H l xs → Rl G ρ H (.lst l) (.ref a)
  | dK {a : Addr} {ks : List Key} {vs : List PV} {kvs : List (Key × V)} : Rd H a (.dK kvs) → Out G.T ρ a → ks = kvs.map (·.1) → RlAll G ρ H vs (kvs.map (·.2)) → Rl G ρ H (.dK ks vs) (.ref a)
  | dT {a : Addr} {ks : List (List Key)} {vs : List PV} {kvs : List (List Key × V)} : Rd H a (.dT kvs) → Out G.T ρ a → ks = kvs.map (·.1) → RlAll G ρ H vs (kvs.map (·.2)) → Rl G ρ H (.dT ks vs) (.ref a)
  | ref {n : Nat} {a : Addr} : ρ[n]? = some a → Rl G ρ H (.ref n) (.ref a)
  | con {x : Str} {a : Addr} : G.mg x = some (.ref a) → Rl G ρ H (.con x) (.ref a)
  | scr {a : Addr} {l : List PV} {xs : List V} : (LV G.T ρ H a xs ∨ ∀ H, SqL G.K H a xs) → RlAll G ρ H l xs → Rl G ρ H (.scr l) (.ref a)
inductive RlAll (G : DG) (ρ : List Addr) (H : Hp) : List PV → List V → Prop where
  | nil : RlAll G ρ H [] []
  | cons {p : PV} {v : V} {ps : List PV} {vs : List V} : Rl G ρ H p v → RlAll G ρ H ps vs → RlAll G ρ H (p :: ps) (v :: vs)
end

/-- what an object of the store is in the heap -/
inductive RlO (G : DG) (ρ : List Addr) (H : Hp) : SO → Addr → Prop where
  | lst {a : Addr} {l : List PV} {xs : List V} : H a = some (.lst xs) → RlAll G ρ H l xs → RlO G ρ H (.lst l) a
  | dK {a : Addr} {es : List (Key × PV)} {kvs : List (Key × V)} : H a = some (.dK kvs) → es.map (·.1) = kvs.map (·.1) → RlAll G ρ H (es.map (·.2)) (kvs.map (·.2)) → RlO G ρ H (.dK es) a
  | dT {a : Addr} {es : List (List Key × PV)} {kvs : List (List Key × V)} : H a = some (.dT kvs) → es.map (·.1) = kvs.map (·.1) → RlAll G ρ H (es.map (·.2)) (kvs.map (·.2)) → RlO G ρ H (.dT es) a
  | ins {a : Addr} {C : Str} {ca dx : Addr} {fs : List (Str × PV)} {gs : List (Str × V)} : G.mg C = some (.ref ca) → H a = some (.ins ca dx gs) → fs.map (·.1) = gs.map (·.1) → RlAll G ρ H (fs.map (·.2)) (gs.map (·.2)) → RlO G ρ H (.ins C fs) a

/-- from one state to a later one -/
structure Ext (T : TR) (ρ : List Addr) (H : Hp) (ρ' : List Addr) (H' : Hp) : Prop where
  pre : ρ <+: ρ'
  keep : ∀ a u, Rd H a u → Out T ρ a → (∀ ps, u ≠ .tbl ps) → Rd H' a u
  new : ∀ a ∈ ρ', a ∈ ρ ∨ H a = none
  free : ∀ a, H' a = none → H a = none
  tups : ∀ a u, TU u → H a = some u → H' a = some u
  rs : ∀ a ∈ T.res, H a ≠ none → H' a = H a

structure RlE (G : DG) (ρ : List Addr) (H : Hp) (aσ : AE) (σ : St) : Prop where
  len : aσ.length = σ.length
  at_ : ∀ (i : Nat) (p : PV), aσ[i]? = some (some p) → ∃ v, σ[i]? = some (some v) ∧ Rl G ρ H p v
structure RlS (G : DG) (ρ : List Addr) (H : Hp) (st : Store) : Prop where
  len : ρ.length = st.length
  nd : ρ.Nodup
  at_ : ∀ (n : Nat) (o : SO) (a : Addr), st[n]? = some o → ρ[n]? = some a → RlO G ρ H o a
  tabs : LamX.Tabs G.T.tabs H
  res : ∀ a ∈ G.T.res, H a ≠ none ∧ a ∉ ρ

section
variable {G : DG} {ρ ρ' ρ1 : List Addr} {H H' H1 : Hp}
theorem rd_not {H : Hp} {a : Addr} {u : HO} (r : Rd H a u) (n : H a = none) : False := by
  rcases r with r | ⟨o, r⟩ <;> rw [n] at r <;> cases r
theorem LV.sq {T : TR} {K : PySem.W.Frag} {a : Addr} {xs : List V} (h : LV T ρ H a xs) : SqL K H a xs := .inl h.1
theorem TV.sq {K : PySem.W.Frag} {w f : Bool} {a : Addr} {xs : List V} (h : TV K H w f a xs) : SqT K H a xs := h.elim (fun ⟨o, _, h⟩ => by
  cases f
  · exact .inl (.inl h)
  · exact .inl (.inr ⟨o, h⟩)) fun h => .inr h.2
theorem Ext.refl {T : TR} : Ext T ρ H ρ H := ⟨List.prefix_refl _, fun _ _ r _ _ => r, fun _ h => .inl h, fun _ h => h, fun _ _ _ h => h, fun _ _ _ => rfl⟩
theorem Ext.notin (e : Ext G.T ρ H ρ' H') {a : Addr} {u : HO} (r : Rd H a u) (n : Out G.T ρ a) : Out G.T ρ' a := ⟨fun h => by
  rcases e.new a h with z | z
  · exact n.1 z
  · exact rd_not r z, n.2⟩
theorem Ext.trans (e : Ext G.T ρ H ρ1 H1) (f : Ext G.T ρ1 H1 ρ' H') : Ext G.T ρ H ρ' H' where
  pre := e.pre.trans f.pre
  keep := fun a u r n t => f.keep a u (e.keep a u r n t) (e.notin r n) t
  new := fun a h => by
    rcases f.new a h with z | z
    · exact e.new a z
    · exact .inr (e.free a z)
  free := fun a h => e.free a (f.free a h)
  tups := fun a u t h => f.tups a u t (e.tups a u t h)
  rs := fun a ha hn => (f.rs a ha (by rw [e.rs a ha hn]; exact hn)).trans (e.rs a ha hn)
theorem LV.ext (e : Ext G.T ρ H ρ' H') {a : Addr} {xs : List V} (h : LV G.T ρ H a xs) : LV G.T ρ' H' a xs := ⟨e.keep a _ h.1 h.2 (fun _ z => by cases z), e.notin h.1 h.2⟩
theorem TV.ext {K : PySem.W.Frag} {w f : Bool} (e : Ext G.T ρ H ρ' H') {a : Addr} {xs : List V} (h : TV K H w f a xs) : TV K H' w f a xs := h.elim (fun ⟨o, p, h⟩ => .inl ⟨o, p, e.tups a _ (mkT_tu f o xs) h⟩) .inr
mutual
theorem Rl.ext (e : Ext G.T ρ H ρ' H') : ∀ {p : PV} {v : V}, Rl G ρ H p v → Rl G ρ' H' p v
  | _, _, .non => .non
  | _, _, .bl b => .bl b
  | _, _, .int i => .int i
  | _, _, .str x => .str x
  | _, _, .ty n => .ty n
  | _, _, .tup h r => .tup (h.ext e) (RlAll.ext e r)
  | _, _, .lst h r => .lst (h.ext e) (RlAll.ext e r)
  | _, _, .dK h n k r => .dK (e.keep _ _ h n (fun _ z => by cases z)) (e.notin h n) k (RlAll.ext e r)
  | _, _, .dT h n k r => .dT (e.keep _ _ h n (fun _ z => by cases z)) (e.notin h n) k (RlAll.ext e r)
  | _, _, .ref h => .ref (by
      obtain ⟨t, rfl⟩ := e.pre
      rw [List.getElem?_append_left (List.getElem?_eq_some_iff.mp h).1]
      exact h)
  | _, _, .con h => .con h
  | _, _, .scr h r => .scr (h.imp (fun h => h.ext e) id) (RlAll.ext e r)
theorem RlAll.ext (e : Ext G.T ρ H ρ' H') : ∀ {ps : List PV} {vs : List V}, RlAll G ρ H ps vs → RlAll G ρ' H' ps vs
  | _, _, .nil => .nil
  | _, _, .cons r t => .cons (Rl.ext e r) (RlAll.ext e t)
end
theorem RlE.ext (e : Ext G.T ρ H ρ' H') {aσ : AE} {σ : St} (h : RlE G ρ H aσ σ) : RlE G ρ' H' aσ σ :=
  ⟨h.len, fun i p q => let ⟨v, a, b⟩ := h.at_ i p q; ⟨v, a, b.ext e⟩⟩
theorem RlO.ext {o : SO} {a : Addr} (e : Ext G.T ρ H ρ' H') (k : ∀ u, H a = some u → H' a = some u) (h : RlO G ρ H o a) : RlO G ρ' H' o a := by
  cases h with
  | lst h r => exact .lst (k _ h) (r.ext e)
  | dK h x r => exact .dK (k _ h) x (r.ext e)
  | dT h x r => exact .dT (k _ h) x (r.ext e)
  | ins c h x r => exact .ins c (k _ h) x (r.ext e)
theorem RlAll.length : ∀ {ps : List PV} {vs : List V}, RlAll G ρ H ps vs → ps.length = vs.length
  | _, _, .nil => rfl
  | _, _, .cons _ t => by simp [RlAll.length t]
theorem RlAll.get : ∀ {ps : List PV} {vs : List V} {i : Nat} {p : PV}, RlAll G ρ H ps vs → ps[i]? = some p → ∃ v, vs[i]? = some v ∧ Rl G ρ H p v
  | _, _, _, _, .nil, e => by simp at e
  | _, _, 0, _, .cons r _, e => by simp at e; subst e; exact ⟨_, rfl, r⟩
  | _, _, i + 1, p, .cons _ t, e => by
    obtain ⟨u, h1, h2⟩ := RlAll.get (i := i) (p := p) t (by simpa using e)
    exact ⟨u, by simpa using h1, h2⟩
theorem RlAll.append : ∀ {ps qs : List PV} {vs ws : List V}, RlAll G ρ H ps vs → RlAll G ρ H qs ws → RlAll G ρ H (ps ++ qs) (vs ++ ws)
  | _, _, _, _, .nil, s => s
  | _, _, _, _, .cons r t, s => .cons r (RlAll.append t s)
theorem RlAll.set {p : PV} {v : V} (r : Rl G ρ H p v) : ∀ {ps : List PV} {vs : List V} (i : Nat), RlAll G ρ H ps vs → RlAll G ρ H (ps.set i p) (vs.set i v)
  | _, _, _, .nil => .nil
  | _, _, 0, .cons _ t => .cons r t
  | _, _, i + 1, .cons q t => .cons q (RlAll.set r i t)
theorem RlAll.take : ∀ {ps : List PV} {vs : List V} (n : Nat), RlAll G ρ H ps vs → RlAll G ρ H (ps.take n) (vs.take n)
  | _, _, 0, _ => .nil
  | _, _, _ + 1, .nil => .nil
  | _, _, n + 1, .cons r t => .cons r (RlAll.take n t)
theorem RlAll.drop : ∀ {ps : List PV} {vs : List V} (n : Nat), RlAll G ρ H ps vs → RlAll G ρ H (ps.drop n) (vs.drop n)
  | _, _, 0, r => r
  | _, _, _ + 1, .nil => .nil
  | _, _, n + 1, .cons _ t => RlAll.drop n t
theorem RlAll.eraseIdx : ∀ {ps : List PV} {vs : List V} (n : Nat), RlAll G ρ H ps vs → RlAll G ρ H (ps.eraseIdx n) (vs.eraseIdx n)
  | _, _, _, .nil => .nil
  | _, _, 0, .cons _ t => t
  | _, _, n + 1, .cons r t => .cons r (RlAll.eraseIdx n t)
end

/-! ### what is wanted behind a result -/
abbrev Xd (w : V) : HO := .xd [(("what" : Str), w)]
/-- from the state (ρ, H): K behind an answer, E behind an exception -/
def Pst (G : DG) (E : XK) (ρ : List Addr) (H : Hp) {α : Type} (K : α → Store → List Addr → Hp → Prop) : Res α → Prop
  | .ok a st => ∀ ρ' H', Ext G.T ρ H ρ' H' → RlS G ρ' H' st → K a st ρ' H'
  | .exc c w st => ∀ ρ' H' ca d v, Ext G.T ρ H ρ' H' → RlS G ρ' H' st → G.mg c = some (.ref ca) → H' d = some (Xd v) → d ∉ ρ' → Rl G ρ' H' w v → E (.ref ca) (some d) H'
  | .fail => False
inductive Fl where
  | nx | bk | ct | rt (v : PV)
abbrev KV (G : DG) (Q : VK) : PV → Store → List Addr → Hp → Prop := fun p _ ρ H => ∀ v, Rl G ρ H p v → Q v H
abbrev KB (Q : Bool → Hp → Prop) : Bool → Store → List Addr → Hp → Prop := fun b _ _ H => Q b H
abbrev KA (G : DG) (Q : List V → Hp → Prop) : List PV → Store → List Addr → Hp → Prop := fun ps _ ρ H => ∀ vs, RlAll G ρ H ps vs → Q vs H
def KF (G : DG) (D : Ends) (ρ : List Addr) (H : Hp) (σ : St) : Fl → Prop
  | .nx => D.nx σ H
  | .bk => D.bk σ H
  | .ct => D.ct σ H
  | .rt p => ∀ v, Rl G ρ H p v → D.rt v H
abbrev KS (G : DG) (D : Ends) : Fl × AE → Store → List Addr → Hp → Prop := fun r _ ρ H => ∀ σ, RlE G ρ H r.2 σ → KF G D ρ H σ r.1
section
variable {G : DG} {E : XK} {ρ ρ1 : List Addr} {H H1 : Hp} {α β : Type}
theorem Pst.base {K : α → Store → List Addr → Hp → Prop} {r : Res α} (e : Ext G.T ρ H ρ1 H1) (h : Pst G E ρ H K r) : Pst G E ρ1 H1 K r := by
  cases r with
  | ok p st => exact fun ρ' H' x => h ρ' H' (e.trans x)
  | exc c w st => exact fun ρ' H' ca d v x => h ρ' H' ca d v (e.trans x)
  | fail => exact h
theorem Pst.imp {K K' : α → Store → List Addr → Hp → Prop} {r : Res α} (h : Pst G E ρ H K r) (i : ∀ a st ρ1 H1, Ext G.T ρ H ρ1 H1 → RlS G ρ1 H1 st → K a st ρ1 H1 → K' a st ρ1 H1) : Pst G E ρ H K' r := by
  cases r with
  | ok p st => exact fun ρ' H' x s => i _ _ _ _ x s (h ρ' H' x s)
  | exc c w st => exact h
  | fail => exact h
theorem Pst.bind {K : β → Store → List Addr → Hp → Prop} {r : Res α} {k : α → Store → Res β} (h : Pst G E ρ H K (r.bind k)) :
    Pst G E ρ H (fun a st ρ1 H1 => Ext G.T ρ H ρ1 H1 ∧ RlS G ρ1 H1 st ∧ Pst G E ρ1 H1 K (k a st)) r := by
  cases r with
  | ok p st => exact fun ρ' H' x s => ⟨x, s, h.base x⟩
  | exc c w st => exact h
  | fail => exact h
theorem Pst.ret {K : α → Store → List Addr → Hp → Prop} {a : α} {st : Store} (hS : RlS G ρ H st) (h : Pst G E ρ H K (.ok a st)) : K a st ρ H := h ρ H Ext.refl hS
end

abbrev DE := AE → M PV
abbrev DB := AE → M Bool
abbrev DA := AE → M (List PV)
abbrev DS := AE → M (Fl × AE)
def Tv (G : DG) (E : XK) (f : DE) : TE := fun σ H Q => ∃ ρ aσ st, RlE G ρ H aσ σ ∧ RlS G ρ H st ∧ Pst G E ρ H (KV G Q) (f aσ st)
def Tb (G : DG) (E : XK) (f : DB) : TT := fun σ H Q => ∃ ρ aσ st, RlE G ρ H aσ σ ∧ RlS G ρ H st ∧ Pst G E ρ H (KB Q) (f aσ st)
def Ta (G : DG) (E : XK) (f : DA) : TA := fun σ H Q => ∃ ρ aσ st, RlE G ρ H aσ σ ∧ RlS G ρ H st ∧ Pst G E ρ H (KA G Q) (f aσ st)
def Ts (G : DG) (E : XK) (f : DS) : TS := fun D σ H => ∃ ρ aσ st, RlE G ρ H aσ σ ∧ RlS G ρ H st ∧ Pst G E ρ H (KS G D) (f aσ st)

/-! ### the judgements -/
def EV (X : Cx) (T : TR) (E : XK) (e : Expr) (f : DE) : Prop := PE X e (Tv (gOf X T) E f)
def EB (X : Cx) (T : TR) (E : XK) (e : Expr) (f : DB) : Prop := PT X e (Tb (gOf X T) E f)
def EA (X : Cx) (T : TR) (E : XK) (es : List Expr) (f : DA) : Prop := PA X es (Ta (gOf X T) E f)
def ES (X : Cx) (T : TR) (E : XK) (s : Stmt) (f : DS) : Prop := PS X s (Ts (gOf X T) E f)
def ESs (X : Cx) (T : TR) (E : XK) (ss : List Stmt) (f : DS) : Prop := PSs X ss (Ts (gOf X T) E f)

section
variable {X : Cx} {T : TR} {E : XK}
theorem pe_imp {e : Expr} {t t' : TE} (h : PE X e t) (i : ∀ σ H Q, t' σ H Q → t σ H Q) : PE X e t' := ⟨fun pins s σ H Q I q => h.run pins s σ H Q I (i σ H Q q)⟩
theorem pt_imp {e : Expr} {t t' : TT} (h : PT X e t) (i : ∀ σ H Q, t' σ H Q → t σ H Q) : PT X e t' := ⟨fun pins s σ H Q I q => h.run pins s σ H Q I (i σ H Q q)⟩
theorem pw_imp {e : Expr} {t t' : TT} (h : PW X e t) (i : ∀ σ H Q, t' σ H Q → t σ H Q) : PW X e t' := ⟨fun wh pins s σ H Q I q => h.run wh pins s σ H Q I (i σ H Q q)⟩
theorem pa_imp {es : List Expr} {t t' : TA} (h : PA X es t) (i : ∀ σ H Q, t' σ H Q → t σ H Q) : PA X es t' := ⟨fun pos pins s σ H Q I q => h.run pos pins s σ H Q I (i σ H Q q)⟩
theorem ps_imp {e : Stmt} {t t' : TS} (h : PS X e t) (i : ∀ D σ H, t' D σ H → t D σ H) : PS X e t' := ⟨fun pins s σ H D I q => h.run pins s σ H D I (i D σ H q)⟩
theorem pss_imp {e : List Stmt} {t t' : TS} (h : PSs X e t) (i : ∀ D σ H, t' D σ H → t D σ H) : PSs X e t' := ⟨fun pins s σ H D I q => h.run pins s σ H D I (i D σ H q)⟩
end

/-! ### steps of the heap -/
section
variable {G : DG} {E : XK} {ρ : List Addr} {H : Hp} {st : Store} {p : Addr} {o : HO}
theorem rd_upd {a : Addr} {u : HO} (hp : H p = none) (r : Rd H a u) : Rd (upd H p o) a u := by
  have ne : a ≠ p := fun e => by subst e; exact rd_not r hp
  rcases r with r | ⟨w, r⟩
  · exact .inl (by rw [upd_ne ne]; exact r)
  · exact .inr ⟨w, by rw [upd_ne ne]; exact r⟩
theorem ext_new {T : TR} (hp : H p = none) : Ext T ρ H ρ (upd H p o) :=
  ⟨List.prefix_refl _, fun _ _ r _ _ => rd_upd hp r, fun _ h => .inl h, fun a h => by
    by_cases e : a = p
    · rw [e]; exact hp
    · rwa [upd_ne e] at h, fun a u _ h => by rw [upd_ne (ne_of_none h hp)]; exact h, fun a _ hn => upd_ne fun e => hn (by rw [e]; exact hp)⟩
theorem keep_new (hp : H p = none) : ∀ b u, H b = some u → upd H p o b = some u := fun b u e => by rw [upd_ne (ne_of_none e hp)]; exact e
theorem RlS.notin (hS : RlS G ρ H st) (hp : H p = none) : p ∉ ρ := fun h => by
  obtain ⟨n, hn, e⟩ := List.mem_iff_getElem.mp h
  have e1 : ρ[n]? = some p := by rw [List.getElem?_eq_getElem hn, e]
  have hn2 : n < st.length := by rw [← hS.len]; exact hn
  have r := hS.at_ n st[n] p (List.getElem?_eq_getElem hn2) e1
  generalize st[n] = so at r
  cases r with
  | lst h _ => rw [hp] at h; cases h
  | dK h _ _ => rw [hp] at h; cases h
  | dT h _ _ => rw [hp] at h; cases h
  | ins _ h _ _ => rw [hp] at h; cases h
theorem upd_some {a : Addr} (h : H a ≠ none) : upd H p o a ≠ none := by
  by_cases e : a = p
  · rw [e, upd_same]; simp
  · rwa [upd_ne e]
theorem RlS.new (hS : RlS G ρ H st) (hp : H p = none) : RlS G ρ (upd H p o) st :=
  ⟨hS.len, hS.nd, fun n u a h1 h2 => (hS.at_ n u a h1 h2).ext (ext_new hp) (keep_new hp a), hS.tabs.ext (keep_new hp), fun a ha => ⟨upd_some (hS.res a ha).1, (hS.res a ha).2⟩⟩
theorem RlS.out (hS : RlS G ρ H st) (hp : H p = none) : Out G.T ρ p := ⟨hS.notin hp, fun h => (hS.res p h).1 hp⟩
theorem RlS.ref (hS : RlS G ρ H st) {n : Nat} {a : Addr} {so : SO} (h : ρ[n]? = some a) (hs : st[n]? = some so) : RlO G ρ H so a := hS.at_ n so a hs h
theorem post_val {Q : VK} {q : PV} {v : V} (h : Pst G E ρ H (KV G Q) (.ok q st)) (hS : RlS G ρ H st) (r : Rl G ρ H q v) : Q v H := h.ret hS v r
/-- a new tuple, as it is or with its object -/
def NewT (H : Hp) (xs : List V) (Q : VK) : Prop := ∃ b, ∀ p o, H p = none → PlT o → Q (.ref p) (upd H p (mkT b o xs))
theorem post_tup {Q : VK} {l : List PV} {xs : List V} (h : Pst G E ρ H (KV G Q) (.ok (.tup l) st)) (hS : RlS G ρ H st) (r : RlAll G ρ H l xs) : NewT H xs Q :=
  ⟨isF l, fun p o hp hpl => h ρ _ (ext_new hp) (hS.new hp) _ (.tup (.inl ⟨o, hpl, upd_same⟩) (r.ext (ext_new hp)))⟩
theorem post_lst {Q : VK} {l : List PV} {xs : List V} (h : Pst G E ρ H (KV G Q) (.ok (.lst l) st)) (hS : RlS G ρ H st) (r : RlAll G ρ H l xs) (hp : H p = none) : Q (.ref p) (upd H p (.lst xs)) :=
  h ρ _ (ext_new hp) (hS.new hp) _ (.lst ⟨.inl upd_same, hS.out hp⟩ (r.ext (ext_new hp)))
/-- a new object of the store -/
theorem ext_push {T : TR} (hp : H p = none) : Ext T ρ H (ρ ++ [p]) (upd H p o) :=
  ⟨List.prefix_append _ _, fun _ _ r _ _ => rd_upd hp r, fun a h => by
    rcases List.mem_append.mp h with h | h
    · exact .inl h
    · rw [List.mem_singleton.mp h]; exact .inr hp, (ext_new (T := T) (ρ := ρ) hp).free, (ext_new (T := T) (ρ := ρ) hp).tups, (ext_new (T := T) (ρ := ρ) hp).rs⟩
theorem RlS.push {so : SO} (hS : RlS G ρ H st) (hp : H p = none) (r : RlO G (ρ ++ [p]) (upd H p o) so p) : RlS G (ρ ++ [p]) (upd H p o) (st ++ [so]) where
  len := by simp [hS.len]
  nd := by
    have h := hS.notin hp
    rw [List.nodup_append]
    exact ⟨hS.nd, by simp, fun a ha b hb => by rw [List.mem_singleton.mp hb]; rintro rfl; exact h ha⟩
  at_ := fun n u a h1 h2 => by
    by_cases hn : n < st.length
    · rw [List.getElem?_append_left hn] at h1
      rw [List.getElem?_append_left (by rw [hS.len]; exact hn)] at h2
      exact (hS.at_ n u a h1 h2).ext (ext_push hp) (keep_new hp a)
    · have hn2 : n < (st ++ [so]).length := (List.getElem?_eq_some_iff.mp h1).1
      have e : n = st.length := by simp at hn2; omega
      subst e
      rw [List.getElem?_append_right (Nat.le_refl _)] at h1
      rw [← hS.len, List.getElem?_append_right (Nat.le_refl _)] at h2
      simp at h1 h2
      subst h1 h2
      exact r
  tabs := hS.tabs.ext (keep_new hp)
  res := fun a ha => ⟨upd_some (hS.res a ha).1, fun h => by
    rcases List.mem_append.mp h with h | h
    · exact (hS.res a ha).2 h
    · rw [List.mem_singleton.mp h] at ha; exact (hS.res p ha).1 hp⟩
theorem post_lstR {Q : VK} {l : List PV} {xs : List V} (h : Pst G E ρ H (KV G Q) (.ok (.ref st.length) (st ++ [.lst l]))) (hS : RlS G ρ H st) (r : RlAll G ρ H l xs) (hp : H p = none) : Q (.ref p) (upd H p (.lst xs)) :=
  h (ρ ++ [p]) _ (ext_push hp) (hS.push hp (.lst upd_same (r.ext (ext_push hp)))) _ (.ref (by rw [← hS.len]; simp))
/-- an object of the store is changed -/
theorem RlS.ne (hS : RlS G ρ H st) {n m : Nat} {a b : Addr} (h : ρ[n]? = some a) (h' : ρ[m]? = some b) (hn : n ≠ m) : a ≠ b := fun e => by
  subst e
  obtain ⟨h1, e1⟩ := List.getElem?_eq_some_iff.mp h
  obtain ⟨h2, e2⟩ := List.getElem?_eq_some_iff.mp h'
  exact hn ((List.getElem_inj hS.nd).mp (e1.trans e2.symm))
def Chg : HO → Prop
  | .lst _ => True
  | .dK _ => True
  | .dT _ => True
  | .ins _ _ _ => True
  | _ => False
theorem tu_chg {u : HO} (t : TU u) (c : Chg u) : False := by
  cases u <;> first | exact t | exact c
theorem ext_set {a : Addr} {w : HO} (hS : RlS G ρ H st) (ha : a ∈ ρ) (hh : H a = some w) (hc : Chg w) : Ext G.T ρ H ρ (upd H a o) :=
  ⟨List.prefix_refl _, fun b u r n _ => by
    have ne : b ≠ a := fun e => n.1 (e ▸ ha)
    rcases r with r | ⟨w, r⟩
    · exact .inl (by rw [upd_ne ne]; exact r)
    · exact .inr ⟨w, by rw [upd_ne ne]; exact r⟩, fun _ h => .inl h, fun b h => by
    by_cases e : b = a
    · rw [e, upd_same] at h; cases h
    · rwa [upd_ne e] at h, fun b u t h => by
    have ne : b ≠ a := fun e => by rw [e, hh] at h; cases h; exact tu_chg t hc
    rw [upd_ne ne]; exact h, fun b hb _ => upd_ne fun e => (hS.res b hb).2 (by rw [e]; exact ha)⟩
theorem tabs_set {T : List (Addr × Str)} {a : Addr} {u : HO} (t : LamX.Tabs T H) (h : H a = some u) (c : Chg u) : LamX.Tabs T (upd H a o) := fun q hq => by
  obtain ⟨ps, h1, h2, h3⟩ := t q hq
  have n1 : q.1 ≠ a := fun e => by rw [e, h] at h1; cases h1; exact c
  refine ⟨ps, by rw [upd_ne n1]; exact h1, h2, fun pos cv hc => ?_⟩
  obtain ⟨d, e1, e2⟩ := h3 pos cv hc
  have n2 : d ≠ a := fun e => by rw [e, h] at e2; cases e2; exact c
  exact ⟨d, e1, by rw [upd_ne n2]; exact e2⟩
theorem RlS.set {n : Nat} {a : Addr} {so so' : SO} {u : HO} (hS : RlS G ρ H st) (ha : ρ[n]? = some a) (hs : st[n]? = some so) (hu : H a = some u) (hc : Chg u) (r : RlO G ρ (upd H a o) so' a) : RlS G ρ (upd H a o) (st.set n so') := by
  have hm : a ∈ ρ := List.mem_of_getElem? ha
  refine ⟨by rw [List.length_set]; exact hS.len, hS.nd, fun m w b h1 h2 => ?_, tabs_set hS.tabs hu hc, fun b hb => ⟨upd_some (hS.res b hb).1, (hS.res b hb).2⟩⟩
  by_cases e : n = m
  · subst e
    rw [ha] at h2; cases h2
    rw [List.getElem?_set_self (List.getElem?_eq_some_iff.mp hs).1] at h1
    cases h1
    exact r
  · rw [List.getElem?_set_ne e] at h1
    have nb : b ≠ a := (hS.ne ha h2 e).symm
    exact (hS.at_ m w b h1 h2).ext (ext_set hS hm hu hc) (fun z q => by rw [upd_ne nb]; exact q)
end

/-! ### from one state to another one, the lists in the making others too -/
structure Mv (T : TR) (ρ : List Addr) (H : Hp) (T' : TR) (ρ' : List Addr) (H' : Hp) : Prop where
  pre : ρ <+: ρ'
  keep : ∀ a u, Rd H a u → Out T ρ a → (∀ ps, u ≠ .tbl ps) → Rd H' a u ∧ Out T' ρ' a
  tups : ∀ a u, TU u → H a = some u → H' a = some u
section
variable {K : PySem.W.Frag} {mg : Str → Option Value} {T T' T2 : TR} {ρ ρ' ρ2 : List Addr} {H H' H2 : Hp}
theorem Ext.mv (e : Ext T ρ H ρ' H') : Mv T ρ H T ρ' H' := ⟨e.pre, fun a u r o t => ⟨e.keep a u r o t, ⟨fun h => by
  rcases e.new a h with z | z
  · exact o.1 z
  · exact rd_not r z, o.2⟩⟩, e.tups⟩
theorem Mv.trans (e : Mv T ρ H T' ρ' H') (f : Mv T' ρ' H' T2 ρ2 H2) : Mv T ρ H T2 ρ2 H2 :=
  ⟨e.pre.trans f.pre, fun a u r o t => let ⟨r1, o1⟩ := e.keep a u r o t; f.keep a u r1 o1 t, fun a u t h => f.tups a u t (e.tups a u t h)⟩
mutual
theorem Rl.mv (e : Mv T ρ H T' ρ' H') : ∀ {p : PV} {v : V}, Rl ⟨K, mg, T⟩ ρ H p v → Rl ⟨K, mg, T'⟩ ρ' H' p v
  | _, _, .non => .non
  | _, _, .bl b => .bl b
  | _, _, .int i => .int i
  | _, _, .str x => .str x
  | _, _, .ty n => .ty n
  | _, _, .tup h r => .tup (h.elim (fun ⟨o, p, h⟩ => .inl ⟨o, p, e.tups _ _ (mkT_tu _ _ _) h⟩) .inr) (RlAll.mv e r)
  | _, _, .lst h r => .lst (e.keep _ _ h.1 h.2 (fun _ z => by cases z)) (RlAll.mv e r)
  | _, _, .dK h n k r => .dK (e.keep _ _ h n (fun _ z => by cases z)).1 (e.keep _ _ h n (fun _ z => by cases z)).2 k (RlAll.mv e r)
  | _, _, .dT h n k r => .dT (e.keep _ _ h n (fun _ z => by cases z)).1 (e.keep _ _ h n (fun _ z => by cases z)).2 k (RlAll.mv e r)
  | _, _, .ref h => .ref (by
      obtain ⟨t, rfl⟩ := e.pre
      rw [List.getElem?_append_left (List.getElem?_eq_some_iff.mp h).1]
      exact h)
  | _, _, .con h => .con h
  | _, _, .scr h r => .scr (h.imp (fun h => e.keep _ _ h.1 h.2 (fun _ z => by cases z)) id) (RlAll.mv e r)
theorem RlAll.mv (e : Mv T ρ H T' ρ' H') : ∀ {ps : List PV} {vs : List V}, RlAll ⟨K, mg, T⟩ ρ H ps vs → RlAll ⟨K, mg, T'⟩ ρ' H' ps vs
  | _, _, .nil => .nil
  | _, _, .cons r t => .cons (Rl.mv e r) (RlAll.mv e t)
end
theorem RlE.mv (e : Mv T ρ H T' ρ' H') {aσ : AE} {σ : St} (h : RlE ⟨K, mg, T⟩ ρ H aσ σ) : RlE ⟨K, mg, T'⟩ ρ' H' aσ σ :=
  ⟨h.len, fun i p q => let ⟨v, a, b⟩ := h.at_ i p q; ⟨v, a, b.mv e⟩⟩
theorem RlO.mv {o : SO} {a : Addr} (e : Mv T ρ H T' ρ' H') (k : ∀ u, H a = some u → H' a = some u) (h : RlO ⟨K, mg, T⟩ ρ H o a) : RlO ⟨K, mg, T'⟩ ρ' H' o a := by
  cases h with
  | lst h r => exact .lst (k _ h) (r.mv e)
  | dK h x r => exact .dK (k _ h) x (r.mv e)
  | dT h x r => exact .dT (k _ h) x (r.mv e)
  | ins c h x r => exact .ins c (k _ h) x (r.mv e)
/-- a list at D is being made -/
abbrev TR.add (T : TR) (D : Addr) : TR := ⟨T.tabs, D :: T.res⟩
theorem mv_in {D : Addr} {o : HO} (hD : H D = none) : Mv T ρ H (T.add D) ρ (upd H D o) :=
  ⟨List.prefix_refl _, fun a u r n _ => ⟨rd_upd hD r, n.1, fun h => by
    rcases List.mem_cons.mp h with rfl | h
    · exact rd_not r hD
    · exact n.2 h⟩, fun a u _ h => by rw [upd_ne (ne_of_none h hD)]; exact h⟩
theorem mv_out {D : Addr} : Mv (T.add D) ρ H T ρ H := ⟨List.prefix_refl _, fun a u r n _ => ⟨r, n.1, fun h => n.2 (List.mem_cons_of_mem _ h)⟩, fun _ _ _ h => h⟩
theorem mv_outR {D : Addr} : Mv (T.add D) ρ H T (ρ ++ [D]) H := ⟨List.prefix_append _ _, fun a u r n _ => ⟨r, fun h => by
  rcases List.mem_append.mp h with h | h
  · exact n.1 h
  · rw [List.mem_singleton.mp h] at n; exact n.2 List.mem_cons_self, fun h => n.2 (List.mem_cons_of_mem _ h)⟩, fun _ _ _ h => h⟩
theorem rls_in {D : Addr} {o : HO} {st : Store} (h : RlS ⟨K, mg, T⟩ ρ H st) (hD : H D = none) : RlS ⟨K, mg, T.add D⟩ ρ (upd H D o) st :=
  ⟨h.len, h.nd, fun n w a h1 h2 => (h.at_ n w a h1 h2).mv (mv_in hD) (keep_new hD a), h.tabs.ext (keep_new hD), fun a ha => by
    rcases List.mem_cons.mp ha with rfl | ha
    · exact ⟨by rw [upd_same]; simp, h.notin hD⟩
    · exact ⟨upd_some (h.res a ha).1, (h.res a ha).2⟩⟩
theorem rls_out {D : Addr} {st : Store} (h : RlS ⟨K, mg, T.add D⟩ ρ H st) : RlS ⟨K, mg, T⟩ ρ H st :=
  ⟨h.len, h.nd, fun n w a h1 h2 => (h.at_ n w a h1 h2).mv mv_out (fun _ q => q), h.tabs, fun a ha => h.res a (List.mem_cons_of_mem _ ha)⟩
theorem rls_outO {D : Addr} {st : Store} {so : SO} (h : RlS ⟨K, mg, T.add D⟩ ρ H st) (r : RlO ⟨K, mg, T⟩ (ρ ++ [D]) H so D) (hn : D ∉ T.res) : RlS ⟨K, mg, T⟩ (ρ ++ [D]) H (st ++ [so]) where
  len := by simp [h.len]
  nd := by
    have z := (h.res D List.mem_cons_self).2
    rw [List.nodup_append]
    exact ⟨h.nd, by simp, fun a ha b hb => by rw [List.mem_singleton.mp hb]; rintro rfl; exact z ha⟩
  at_ := fun n u a h1 h2 => by
    by_cases hh : n < st.length
    · rw [List.getElem?_append_left hh] at h1
      rw [List.getElem?_append_left (by rw [h.len]; exact hh)] at h2
      exact (h.at_ n u a h1 h2).mv mv_outR (fun _ q => q)
    · have hn2 : n < (st ++ [so]).length := (List.getElem?_eq_some_iff.mp h1).1
      have e : n = st.length := by simp at hn2; omega
      subst e
      rw [List.getElem?_append_right (Nat.le_refl _)] at h1
      rw [← h.len, List.getElem?_append_right (Nat.le_refl _)] at h2
      simp at h1 h2
      subst h1 h2
      exact r
  tabs := h.tabs
  res := fun a ha => ⟨(h.res a (List.mem_cons_of_mem _ ha)).1, fun hm => by
    rcases List.mem_append.mp hm with hm | hm
    · exact (h.res a (List.mem_cons_of_mem _ ha)).2 hm
    · rw [List.mem_singleton.mp hm] at ha; exact hn ha⟩
theorem rls_outR {D : Addr} {st : Store} {l : List PV} {xs : List V} (h : RlS ⟨K, mg, T.add D⟩ ρ H st) (hD : H D = some (.lst xs)) (r : RlAll ⟨K, mg, T.add D⟩ ρ H l xs) (hn : D ∉ T.res) : RlS ⟨K, mg, T⟩ (ρ ++ [D]) H (st ++ [.lst l]) :=
  rls_outO h (.lst hD (r.mv mv_outR)) hn
/-- the list in the making grows -/
theorem mv_grow {D : Addr} {o : HO} {u : HO} (hD : H D = some u) (hc : Chg u) (hr : D ∈ T.res) : Mv T ρ H T ρ (upd H D o) :=
  ⟨List.prefix_refl _, fun b w r n _ => by
    have ne : b ≠ D := fun e => n.2 (e ▸ hr)
    rcases r with r | ⟨z, r⟩
    · exact ⟨.inl (by rw [upd_ne ne]; exact r), n⟩
    · exact ⟨.inr ⟨z, by rw [upd_ne ne]; exact r⟩, n⟩, fun b u t h => by
    have ne : b ≠ D := fun e => by rw [e, hD] at h; cases h; exact tu_chg t hc
    rw [upd_ne ne]; exact h⟩
theorem rls_grow {D : Addr} {o : HO} {u : HO} {st : Store} (h : RlS ⟨K, mg, T⟩ ρ H st) (hD : H D = some u) (hc : Chg u) (hr : D ∈ T.res) : RlS ⟨K, mg, T⟩ ρ (upd H D o) st :=
  ⟨h.len, h.nd, fun n w a h1 h2 => (h.at_ n w a h1 h2).mv (mv_grow hD hc hr) (fun z q => by
    have ne : a ≠ D := fun e => (h.res D hr).2 (e ▸ List.mem_of_getElem? h2)
    rw [upd_ne ne]; exact q), tabs_set h.tabs hD hc, fun a ha => ⟨upd_some (h.res a ha).1, (h.res a ha).2⟩⟩
end
end DN
set_option Elab.async false
set_option linter.all false
set_option maxRecDepth 100000
set_option maxHeartbeats 2000000
/-! DnTup: tuples that are made, with their objects where wanted. -/
namespace DN
open PySem PySem.Spec PyProof.Rows L2
section
variable {X : Cx} {H : Hp} {σ : St}
theorem mkT_ok {P : Program} {w : World} {h : Heap} {p : Addr} {o : Obj} {xs : List V} (b : Bool) (e : h.get? p = some o) (r : ObjOk P w H h p (.tup xs)) : ObjOk P w H h p (mkT b o xs) := by
  cases b
  · exact r
  · exact ⟨e, r⟩
theorem plT_new (its : Array Value) (n : Nat) : PlT { cls := .type "tuple", data := .seq its n } := ⟨rfl, rfl⟩
/-- (e, ..) -/
def tTupF (t : TA) : TE := fun σ H Q => t σ H fun xs H1 => xs.length ≤ sizeLine ∧ NewT H1 xs Q
theorem pe_tupF {es : List Expr} {t : TA} {pos : Pos} {x1} (h : PA X es t) : PE X (.Tuple es x1 pos) (tTupF t) := by
  refine ⟨fun pins s σ H Q I hq => ?_⟩
  refine wpAny_Tuple_spliced (thn (h.run pos pins s σ H _ I hq) fun us s1 ⟨xs, H1, I1, r, z, b, q⟩ => ⟨by rw [← r.length]; exact z, ?_⟩)
  have hf : H1 s1.heap.objs.size = none := I1.hok.fresh (Nat.le_refl _)
  refine ⟨.ref s1.heap.objs.size, _, I1.laid (t' := s1.toks) (fun b u e => Heap.get?_push_of_some _ e) (Nat.le_refl _) (mkT_ok b (Heap.get?_push_size _ rfl) ?_), rfl, q _ _ hf (plT_new _ _)⟩
  exact ⟨z, us, r, ⟨_, Heap.get?_push_size _ rfl, rfl, _, rfl⟩⟩
/-- t + u -/
def rCatF (K : PySem.W.Frag) : R2 := fun x y H Q => ∃ a b xs ys, x = .ref a ∧ y = .ref b ∧ SqT K H a xs ∧ SqT K H b ys ∧ xs.length + ys.length ≤ sizeLine ∧
  (xs = [] → Q (.ref b) H) ∧ (xs ≠ [] → ys = [] → Q (.ref a) H) ∧ (xs ≠ [] → ys ≠ [] → NewT H (xs ++ ys) Q)
theorem op_catF : OpR X (binaryOp .Add) (rCatF X.K) := by
  intro pins s σ H x y v u Q I rx ry h
  obtain ⟨a, b, xs, ys, rfl, rfl, ha, hb, hz, q0, q1, q2⟩ := h
  by_cases hx : xs = []
  · exact op_catA pins s σ H _ _ v u Q I rx ry ⟨a, b, xs, ys, rfl, rfl, ha, hb, hz, q0, q1, fun z => absurd hx z⟩
  by_cases hy : ys = []
  · exact op_catA pins s σ H _ _ v u Q I rx ry ⟨a, b, xs, ys, rfl, rfl, ha, hb, hz, q0, q1, fun _ z => absurd hy z⟩
  cases rx
  cases ry
  obtain ⟨its, r1, p1, _⟩ := I.tuple ha
  obtain ⟨its2, r2, p2, _⟩ := I.tuple hb
  obtain ⟨k, q⟩ := q2 hx hy
  refine HT.cat_tup p1 p2 (fun z => hx (r1.nil_iff.mp z)) (fun z => absurd (r2.nil_iff.mp z) hy) (fun z => ?_) (by rw [← r1.length, ← r2.length]; exact hz)
  refine ⟨.ref s.heap.objs.size, _, I.laid (t' := s.toks) (fun b ob q => Heap.get?_push_of_some _ q) (Nat.le_refl _) (mkT_ok k (Heap.get?_push_size _ rfl) ?_), rfl, q _ _ (I.hok.fresh (Nat.le_refl _)) (plT_new _ _)⟩
  exact ⟨by rw [List.length_append]; exact hz, _, r1.append r2, IsTup.new _ _⟩
/-- tuple(xs), tuple(t) -/
def rTupF (K : PySem.W.Frag) : List V → Hp → VK → Prop := fun xs H Q => ∃ p ys, xs = [.ref p] ∧ ((SqL K H p ys ∧ NewT H ys Q) ∨ (SqT K H p ys ∧ Q (.ref p) H))
theorem call_tupleF : CallR X (.type "tuple") (rTupF X.K) := by
  intro pins s σ H xs us Q I r h
  obtain ⟨p, ys, rfl, h⟩ := h
  rcases h with ⟨hq, b, q⟩ | h
  · obtain ⟨u, rfl, rx⟩ := vals1 r
    cases rx
    obtain ⟨its, r', pl, hz⟩ := I.list hq
    have hlen := r'.length
    refine call_tuple_list pl.isList (fun h' kp => ?_) (by simp only [List.size_toArray] <;> omega)
    have I1 : Inv X pins σ H { s with heap := h' } := I.kept (t' := s.toks) kp
    have I2 := I1.laid (h' := h'.push { cls := .type "tuple", data := .seq its.toArray }) (t' := s.toks) (fun b o e => Heap.get?_push_of_some _ e) (Nat.le_refl _) (mkT_ok b (Heap.get?_push_size _ rfl) (show ObjOk X.prog X.w _ _ _ (.tup ys) from ⟨hz, its, r', IsTup.new _ _⟩))
    exact ⟨.ref h'.objs.size, _, I2, rfl, q _ _ (I1.hok.fresh (Nat.le_refl _)) (plT_new _ _)⟩
  · exact call_tuple_of pins s σ H _ us Q I r ⟨p, ys, rfl, .inr h⟩
/-- t[lo:hi] -/
def rSlF (K : PySem.W.Frag) : V → Option Int → Option Int → Hp → VK → Prop := fun x lo hi H Q => ∃ a xs, x = .ref a ∧ SqT K H a xs ∧
  (HT.sIx xs.length 0 lo = 0 ∧ HT.sIx xs.length xs.length hi = xs.length → Q (.ref a) H) ∧ (¬ (HT.sIx xs.length 0 lo = 0 ∧ HT.sIx xs.length xs.length hi = xs.length) → NewT H (cutV xs lo hi) Q)
theorem sl_tupF : SlR X (rSlF X.K) := by
  intro pins s σ H x v vl vu lo hi sl Q I rx hs pl pu h
  obtain ⟨a, xs, rfl, hx, q1, q2⟩ := h
  by_cases hw : HT.sIx xs.length 0 lo = 0 ∧ HT.sIx xs.length xs.length hi = xs.length
  · exact sl_tupA pins s σ H _ v vl vu lo hi sl Q I rx hs pl pu ⟨a, xs, rfl, hx, q1, fun z => absurd hw z⟩
  obtain ⟨k, q⟩ := q2 hw
  cases rx
  obtain ⟨its, r, ht, hz⟩ := I.tuple hx
  have hlen : its.toArray.size = xs.length := by rw [List.size_toArray]; exact r.length.symm
  refine ⟨"tuple", _, PyProof.Rows.slot_tuple_getitem.lookup, ht.typeIs, ?_⟩
  refine HT.getItem_tuple_cut ht hs pl pu (by rw [hlen]; exact hw) ?_ (by rw [hlen]; exact hz)
  rw [hlen]
  refine ⟨.ref s.heap.objs.size, _, I.laid (t' := s.toks) (fun b ob q => Heap.get?_push_of_some _ q) (Nat.le_refl _) (mkT_ok k (Heap.get?_push_size _ rfl) ?_), rfl, q _ _ (I.hok.fresh (Nat.le_refl _)) (plT_new _ _)⟩
  exact ⟨Nat.le_trans (cutV_length xs lo hi) hz, _, (r.drop (HT.sIx xs.length 0 lo)).take (HT.sIx xs.length xs.length hi - HT.sIx xs.length 0 lo), IsTup.new _ _⟩
end
end DN
set_option Elab.async false
set_option linter.all false
set_option maxRecDepth 100000
set_option maxHeartbeats 2000000
/-! DnExpr: expressions. -/
namespace DN
open PySem PySem.Spec PyProof.Rows L2

/-! ### readings -/
def dVar (i : Nat) : DE := fun σ st => match σ[i]? with
  | some (some v) => .ok v st
  | _ => .fail
def dC (v : PV) : DE := fun _ st => .ok v st
def d1 (d : PV → M PV) (f : DE) : DE := fun σ st => (f σ st).bind d
def d2 (d : PV → PV → M PV) (f g : DE) : DE := fun σ st => (f σ st).bind fun x st => (g σ st).bind fun y st => d x y st
def dA0 : DA := fun _ st => .ok [] st
def dAc (f : DE) (r : DA) : DA := fun σ st => (f σ st).bind fun x st => (r σ st).bind fun xs st => .ok (x :: xs) st
def dAl (d : List PV → M PV) (f : DA) : DE := fun σ st => (f σ st).bind d
def ofB : Bool → M PV := fun b st => .ok (.bl b) st
/-- a truth as a test -/
def tB (p : PV) : M Bool := fun st => match p with
  | .bl b => .ok b st
  | _ => .fail
def bVal (f : DE) : DB := fun σ st => (f σ st).bind tB
def bNot (f : DB) : DB := fun σ st => (f σ st).bind fun b st => .ok (!b) st
def bAnd (f g : DB) : DB := fun σ st => (f σ st).bind fun b st => if b then g σ st else .ok false st
def bOr (f g : DB) : DB := fun σ st => (f σ st).bind fun b st => if b then .ok true st else g σ st
def dIf (c : DB) (f g : DE) : DE := fun σ st => (c σ st).bind fun b st => if b then f σ st else g σ st
def dAnd (f g : DE) : DE := fun σ st => (f σ st).bind fun p st => (tB p st).bind fun b st => if b then g σ st else .ok (.bl false) st
def dOr (f g : DE) : DE := fun σ st => (f σ st).bind fun p st => (tB p st).bind fun b st => if b then .ok (.bl true) st else g σ st
def dNot (f : DE) : DE := fun σ st => (f σ st).bind fun p st => (tB p st).bind fun b st => .ok (.bl (!b)) st

abbrev SZ : Nat := 16777216
theorem SZ_eq : sizeLine = SZ := sizeLine_eq

/-- the items of a list -/
def asL (p : PV) (st : Store) : Option (List PV) := match p with
  | .lst l => some l
  | .ref n => (match st[n]? with
    | some (.lst l) => some l
    | _ => none)
  | _ => none

/-- the items of a list that is read -/
def asR (p : PV) (st : Store) : Option (List PV) := match p with
  | .scr l => some l
  | p => asL p st

/-! ### what the rules want -/
section
variable {X : Cx} {T : TR} {E : XK} {G : DG} {ρ : List Addr} {H : Hp} {σ : St} {aσ : AE} {st : Store}
def Adq1 (G : DG) (E : XK) (r : V → Hp → VK → Prop) (d : PV → M PV) : Prop := ∀ ρ H st x v Q, RlS G ρ H st → Rl G ρ H x v → Pst G E ρ H (KV G Q) (d x st) → r v H Q
def Adq2 (G : DG) (E : XK) (r : R2) (d : PV → PV → M PV) : Prop := ∀ ρ H st x y v u Q, RlS G ρ H st → Rl G ρ H x v → Rl G ρ H y u → Pst G E ρ H (KV G Q) (d x y st) → r v u H Q
def AdqL (G : DG) (E : XK) (r : List V → Hp → VK → Prop) (d : List PV → M PV) : Prop := ∀ ρ H st xs vs Q, RlS G ρ H st → RlAll G ρ H xs vs → Pst G E ρ H (KV G Q) (d xs st) → r vs H Q
theorem tv_bind {β : Type} {f : DE} {k : PV → Store → Res β} {K : β → Store → List Addr → Hp → Prop} {W : VK} (hE : RlE G ρ H aσ σ) (hS : RlS G ρ H st) (h : Pst G E ρ H K ((f aσ st).bind k))
    (q : ∀ ρ1 H1 x v st1, Ext G.T ρ H ρ1 H1 → RlS G ρ1 H1 st1 → RlE G ρ1 H1 aσ σ → Rl G ρ1 H1 x v → Pst G E ρ1 H1 K (k x st1) → W v H1) : Tv G E f σ H W :=
  ⟨ρ, aσ, st, hE, hS, h.bind.imp fun x st1 ρ1 H1 _ _ z v r => q ρ1 H1 x v st1 z.1 z.2.1 (hE.ext z.1) r z.2.2⟩
theorem tb_bind {β : Type} {f : DB} {k : Bool → Store → Res β} {K : β → Store → List Addr → Hp → Prop} {W : Bool → Hp → Prop} (hE : RlE G ρ H aσ σ) (hS : RlS G ρ H st) (h : Pst G E ρ H K ((f aσ st).bind k))
    (q : ∀ ρ1 H1 b st1, Ext G.T ρ H ρ1 H1 → RlS G ρ1 H1 st1 → RlE G ρ1 H1 aσ σ → Pst G E ρ1 H1 K (k b st1) → W b H1) : Tb G E f σ H W :=
  ⟨ρ, aσ, st, hE, hS, h.bind.imp fun x st1 ρ1 H1 _ _ z => q ρ1 H1 x st1 z.1 z.2.1 (hE.ext z.1) z.2.2⟩
theorem ta_bind {β : Type} {f : DA} {k : List PV → Store → Res β} {K : β → Store → List Addr → Hp → Prop} {W : List V → Hp → Prop} (hE : RlE G ρ H aσ σ) (hS : RlS G ρ H st) (h : Pst G E ρ H K ((f aσ st).bind k))
    (q : ∀ ρ1 H1 xs vs st1, Ext G.T ρ H ρ1 H1 → RlS G ρ1 H1 st1 → RlE G ρ1 H1 aσ σ → RlAll G ρ1 H1 xs vs → Pst G E ρ1 H1 K (k xs st1) → W vs H1) : Ta G E f σ H W :=
  ⟨ρ, aσ, st, hE, hS, h.bind.imp fun x st1 ρ1 H1 _ _ z v r => q ρ1 H1 x v st1 z.1 z.2.1 (hE.ext z.1) r z.2.2⟩
theorem tv1 {f : DE} {d : PV → M PV} {r : V → Hp → VK → Prop} {Q : VK} (ad : Adq1 G E r d) (h : Tv G E (d1 d f) σ H Q) : Tv G E f σ H fun v H1 => r v H1 Q := by
  obtain ⟨ρ, aσ, st, hE, hS, h⟩ := h
  exact tv_bind hE hS h fun ρ1 H1 x v st1 _ s _ r h => ad ρ1 H1 st1 x v Q s r h
theorem tv2 {f g : DE} {d : PV → PV → M PV} {r : R2} {Q : VK} (ad : Adq2 G E r d) (h : Tv G E (d2 d f g) σ H Q) : Tv G E f σ H fun v H1 => Tv G E g σ H1 fun u H2 => r v u H2 Q := by
  obtain ⟨ρ, aσ, st, hE, hS, h⟩ := h
  exact tv_bind hE hS h fun ρ1 H1 x v st1 _ s e r h => tv_bind e s h fun ρ2 H2 y u st2 x2 s2 _ r2 h => ad ρ2 H2 st2 x y v u Q s2 (r.ext x2) r2 h
theorem tvl {f : DA} {d : List PV → M PV} {r : List V → Hp → VK → Prop} {Q : VK} (ad : AdqL G E r d) (h : Tv G E (dAl d f) σ H Q) : Ta G E f σ H fun vs H1 => r vs H1 Q := by
  obtain ⟨ρ, aσ, st, hE, hS, h⟩ := h
  exact ta_bind hE hS h fun ρ1 H1 x v st1 _ s _ r h => ad ρ1 H1 st1 x v Q s r h

/-! ### names and constants -/
theorem ev_name (i : Nat) {x : Str} {pos : Pos} (hN : X.N[i]? = some x := by rfl) (hv : Vis X.env.scope x := by first | exact Or.inl rfl | exact Or.inr (Or.inl rfl) | exact Or.inr (Or.inr rfl)) (hd : (x == ("__debug__" : Str)) = false := by decide)
    (hcd : (x == ("__classdict__" : Str)) = false := by decide) : EV X T E (.Name x pos) (dVar i) := pe_imp (pe_var hN hv hd hcd) fun σ H Q h => by
  obtain ⟨ρ, aσ, st, hE, hS, h⟩ := h
  unfold dVar at h
  split at h
  · rename_i v e
    obtain ⟨u, e2, r⟩ := hE.at_ i v e
    exact ⟨u, e2, post_val h hS r⟩
  · exact h.elim
theorem ev_c {e : Expr} {p : PV} {v : V} (h : PE X e (tC v)) (r : ∀ ρ H, Rl (gOf X T) ρ H p v) : EV X T E e (dC p) := pe_imp h fun σ H Q h => by
  obtain ⟨ρ, aσ, st, hE, hS, h⟩ := h
  exact post_val h hS (r ρ H)
theorem ev_int {i j pos} : EV X T E (.Constant (.int i) j pos) (dC (.int i)) := ev_c pe_int fun _ _ => .int i
theorem ev_bl {b j pos} : EV X T E (.Constant (.bool b) j pos) (dC (.bl b)) := ev_c pe_bl fun _ _ => .bl b
theorem ev_non {j pos} : EV X T E (.Constant .none j pos) (dC .non) := ev_c pe_non fun _ _ => .non
theorem ev_str {x j pos} : EV X T E (.Constant (.str x) j pos) (dC (.str x)) := ev_c pe_str fun _ _ => .str x
/-- a module's name -/
theorem ev_glob {x : Str} {a : Addr} {pos : Pos} (hg : Gl X x) (hm : X.mg x = some (.ref a)) (hd : (x == ("__debug__" : Str)) = false := by decide) : EV X T E (.Name x pos) (dC (.con x)) := ev_c (pe_glob (v := .ref a) hg hm rfl hd) fun _ _ => .con hm
theorem ev_gint {x : Str} {i : Int} {pos : Pos} (hg : Gl X x) (hm : ∃ t, X.mg x = some (.int i t)) (hd : (x == ("__debug__" : Str)) = false := by decide) : EV X T E (.Name x pos) (dC (.int i)) := by
  obtain ⟨t, hm⟩ := hm
  exact ev_c (pe_glob (v := .int i) hg hm ⟨t, rfl⟩ hd) fun _ _ => .int i
theorem ev_gstr {x z : Str} {pos : Pos} (hg : Gl X x) (hm : ∃ t, X.mg x = some (.str z t)) (hd : (x == ("__debug__" : Str)) = false := by decide) : EV X T E (.Name x pos) (dC (.str z)) := by
  obtain ⟨t, hm⟩ := hm
  exact ev_c (pe_glob (v := .str z) hg hm ⟨t, rfl⟩ hd) fun _ _ => .str z
/-- a written tuple of the module -/
theorem ev_gtup {x : Str} {p : PV} {a : Addr} {pos : Pos} (hg : Gl X x) (hm : X.mg x = some (.ref a)) (r : ∀ ρ H, Rl (gOf X T) ρ H p (.ref a)) (hd : (x == ("__debug__" : Str)) = false := by decide) : EV X T E (.Name x pos) (dC p) := ev_c (pe_glob (v := .ref a) hg hm rfl hd) r
theorem ev_bty {x : Str} {n : String} {pos : Pos} (hg : Gl X x) (hm : X.mg x = none) (hv : bootBuiltins x = some (.type n)) (hn : x ≠ "__name__" := by decide) (hd : (x == ("__debug__" : Str)) = false := by decide) : EV X T E (.Name x pos) (dC (.ty n)) :=
  ev_c (pe_bltn (v := .ty n) hg hm hv rfl hn hd) fun _ _ => .ty n

/-! ### operators -/
variable {a b c : Expr} {fa fb fc : DE} {pos : Pos}
theorem ev_op {op : Operator} {r : R2} {d : PV → PV → M PV} (ho : OpR X (binaryOp op) r) (ad : Adq2 (gOf X T) E r d) (ha : EV X T E a fa) (hb : EV X T E b fb) : EV X T E (.BinOp a op b pos) (d2 d fa fb) :=
  pe_imp (pe_op ho ha hb) fun _ _ _ h => tv2 ad h
theorem ev_un {op : UnaryOp} {r : V → Hp → VK → Prop} {d : PV → M PV} (ho : UnR X (unaryOp op) r) (ad : Adq1 (gOf X T) E r d) (ha : EV X T E a fa) : EV X T E (.UnaryOp op a pos) (d1 d fa) :=
  pe_imp (pe_un ho ha) fun _ _ _ h => tv1 ad h
theorem ev_cmp {op : CmpOp} {r : R2} {d : PV → PV → M PV} (ho : OpR X (compareOp op) r) (ad : Adq2 (gOf X T) E r d) (hm : behindInMarks op b = false) (ha : EV X T E a fa) (hb : EV X T E b fb) : EV X T E (.Compare a [op] [b] pos) (d2 d fa fb) :=
  pe_imp (pe_cmpR ho ha hb hm) fun _ _ _ h => tv2 ad h
theorem OpR.imp {f : Value → Value → Sem Value} {r r' : R2} (h : OpR X f r) (i : ∀ x y H Q, r' x y H Q → r x y H Q) : OpR X f r' := fun pins s σ H x y v u Q I rx ry q => h pins s σ H x y v u Q I rx ry (i x y H Q q)
end

/-! ### + - * // % ** -/
def pAdd (x y : PV) : M PV := fun st => match x, y with
  | .int i, .int j => .ok (.int (i + j)) st
  | .str x, .str y => if x.length + y.length ≤ SZ then .ok (.str (x ++ y)) st else .fail
  | .tup x, .tup y => if x.length + y.length ≤ SZ then .ok (.tup (x ++ y)) st else .fail
  | x, y => match asL x st, asL y st with
    | some x, some y => if x.length + y.length ≤ SZ then .ok (.lst (x ++ y)) st else .fail
    | _, _ => .fail
def pSub (x y : PV) : M PV := fun st => match x, y with
  | .int i, .int j => .ok (.int (i - j)) st
  | _, _ => .fail
/-- a factor below 2 ^ 64 -/
abbrev B64 : Int := 18446744073709551616
/-- a divisor below 2 ^ 200 -/
abbrev B200 : Int := 1606938044258990275541962092341162602522202993782792835301376
def pMul (x y : PV) : M PV := fun st => match x, y with
  | .int i, .int j => if (-B64 < i ∧ i < B64) ∨ (-B64 < j ∧ j < B64) then .ok (.int (i * j)) st else .fail
  | _, _ => .fail
def pDiv (x y : PV) : M PV := fun st => match x, y with
  | .int i, .int j => if 0 < j ∧ j < B200 then .ok (.int (i / j)) st else .fail
  | _, _ => .fail
def pMod (x y : PV) : M PV := fun st => match x, y with
  | .int i, .int j => if 0 < j then .ok (.int (i % j)) st else .fail
  | _, _ => .fail
def pPow (x y : PV) : M PV := fun st => match x, y with
  | .int i, .int j => if 0 ≤ j ∧ j ≤ 1000 ∧ -B64 < i ∧ i < B64 then .ok (.int (i ^ j.toNat)) st else .fail
  | _, _ => .fail
def pNeg (x : PV) : M PV := fun st => match x with
  | .int i => .ok (.int (-i)) st
  | _ => .fail

section
variable {X : Cx} {T : TR} {E : XK} {G : DG} {ρ : List Addr} {H : Hp} {σ : St} {aσ : AE} {st : Store}
theorem asL_rl {p : PV} {v : V} {l : List PV} (hS : RlS G ρ H st) (r : Rl G ρ H p v) (h : asL p st = some l) : ∃ a xs, v = .ref a ∧ Rd H a (.lst xs) ∧ RlAll G ρ H l xs := by
  unfold asL at h
  split at h
  · cases h
    cases r with
    | lst q ra => exact ⟨_, _, rfl, q.1, ra⟩
  · split at h
    · rename_i n _ l' e
      cases h
      cases r with
      | ref q =>
        cases hS.ref q e with
        | lst h r => exact ⟨_, _, rfl, .inl h, r⟩
    · cases h
  · cases h
theorem asR_rl {p : PV} {v : V} {l : List PV} (hS : RlS G ρ H st) (r : Rl G ρ H p v) (h : asR p st = some l) : ∃ a xs, v = .ref a ∧ SqL G.K H a xs ∧ RlAll G ρ H l xs := by
  unfold asR at h
  split at h
  · cases h
    cases r with
    | scr q ra => exact ⟨_, _, rfl, q.elim (fun q => .inl q.1) fun q => q H, ra⟩
  · obtain ⟨a, xs, e, rd, ra⟩ := asL_rl hS r h
    exact ⟨a, xs, e, .inl rd, ra⟩
theorem inv_lst {pins : List (Addr × Obj)} {s : Shared} {a : Addr} {xs : List V} (I : Inv X pins σ H s) (r : Rd H a (.lst xs)) : xs.length ≤ sizeLine ∧ ∃ (its : List Value) (n : Nat), Vals xs its ∧ xs.length = its.length ∧ s.heap.get? a = some { cls := .type "list", data := .seq its.toArray n } := by
  obtain ⟨z, its, n, r, e⟩ := (r.ok I.hok : ObjOk X.prog X.w H s.heap a (.lst xs))
  exact ⟨z, its, n, r, r.length, e⟩
/-- xs + ys, lists that are read -/
def rCatL : R2 := fun x y H Q => ∃ l b xs zs, x = .ref l ∧ y = .ref b ∧ Rd H l (.lst xs) ∧ Rd H b (.lst zs) ∧ xs.length + zs.length ≤ sizeLine ∧ ∀ p, H p = none → Q (.ref p) (upd H p (.lst (xs ++ zs)))
theorem op_catL : OpR X (binaryOp .Add) rCatL := by
  intro pins s σ H x y v u Q I rx ry h
  obtain ⟨l, b, xs, zs, rfl, rfl, hH, hB, hz, q⟩ := h
  cases rx
  cases ry
  obtain ⟨z, its, n, r, hl, e⟩ := inv_lst I hH
  obtain ⟨z2, its2, n2, r2, hl2, e2⟩ := inv_lst I hB
  refine PySem.P.add_list e e2 ?_ (by rw [List.size_toArray, List.size_toArray]; omega)
  have ea : its.toArray ++ its2.toArray = (its ++ its2).toArray := by simp
  rw [ea]
  exact ⟨.ref _, _, I.lnew (t' := s.toks) (r.append r2) (by rw [List.length_append]; omega), rfl, q _ I.fresh⟩
def rAddAll (K : PySem.W.Frag) : R2 := fun x y H Q => (((rI0 fun i j => .int (i + j)) x y H Q ∨ (∃ i j, x = .str i ∧ y = .str j ∧ i.length + j.length ≤ sizeLine ∧ Q (.str (i ++ j)) H)) ∨ rCatF K x y H Q) ∨ rCatL x y H Q
theorem op_addAll : OpR X (binaryOp .Add) (rAddAll X.K) := ((op_add.or op_add_str).or op_catF).or op_catL
theorem ad_add : Adq2 G E (rAddAll G.K) pAdd := fun ρ H st x y v u Q hS rx ry h => by
  unfold pAdd at h
  split at h
  · rename_i i j
    cases rx; cases ry
    exact .inl (.inl (.inl ⟨_, _, rfl, rfl, post_val h hS (.int _)⟩))
  · split at h
    · rename_i hz
      cases rx; cases ry
      exact .inl (.inl (.inr ⟨_, _, rfl, rfl, by rw [SZ_eq]; exact hz, post_val h hS (.str _)⟩))
    · exact h.elim
  · split at h
    · rename_i x y hz
      cases rx with
      | tup hx ax =>
        cases ry with
        | tup hy ay =>
          refine .inl (.inr ⟨_, _, _, _, rfl, rfl, hx.sq, hy.sq, by rw [SZ_eq, ← ax.length, ← ay.length]; exact hz, fun e => ?_, fun _ e => ?_, fun _ _ => post_tup h hS (ax.append ay)⟩)
          · subst e
            cases ax
            exact post_val h hS (.tup hy ay)
          · subst e
            cases ay
            rw [List.append_nil] at h
            exact post_val h hS (.tup hx ax)
    · exact h.elim
  · split at h
    · rename_i e1 e2
      split at h
      · rename_i hz
        obtain ⟨a, xs, rfl, h1, r1⟩ := asL_rl hS rx e1
        obtain ⟨b, ys, rfl, h2, r2⟩ := asL_rl hS ry e2
        exact .inr ⟨_, _, _, _, rfl, rfl, h1, h2, by rw [SZ_eq, ← r1.length, ← r2.length]; exact hz, fun p hp => post_lst h hS (r1.append r2) hp⟩
      · exact h.elim
    · exact h.elim
theorem ad_sub : Adq2 G E (rI0 fun i j => .int (i - j)) pSub := fun ρ H st x y v u Q hS rx ry h => by
  unfold pSub at h
  split at h
  · cases rx; cases ry
    exact ⟨_, _, rfl, rfl, post_val h hS (.int _)⟩
  · exact h.elim
theorem ad_mul : Adq2 G E (rI CMul fun i j => .int (i * j)) pMul := fun ρ H st x y v u Q hS rx ry h => by
  unfold pMul at h
  split at h
  · split at h
    · rename_i hz
      cases rx; cases ry
      exact ⟨_, _, rfl, rfl, hz, post_val h hS (.int _)⟩
    · exact h.elim
  · exact h.elim
theorem ad_div : Adq2 G E (rI CDivW fun i j => .int (i / j)) pDiv := fun ρ H st x y v u Q hS rx ry h => by
  unfold pDiv at h
  split at h
  · split at h
    · rename_i hz
      cases rx; cases ry
      refine ⟨_, _, rfl, rfl, wide_div (b := 200) hz.1 ?_ (by decide) (by decide), post_val h hS (.int _)⟩
      have h1 := hz.1
      have h2 := hz.2
      have e : (2 : Nat) ^ 200 = 1606938044258990275541962092341162602522202993782792835301376 := by decide
      rw [e]
      simp only [B200] at h2
      omega
    · exact h.elim
  · exact h.elim
theorem ad_mod : Adq2 G E (rI (fun _ j => 0 < j) fun i j => .int (i % j)) pMod := fun ρ H st x y v u Q hS rx ry h => by
  unfold pMod at h
  split at h
  · split at h
    · rename_i hz
      cases rx; cases ry
      exact ⟨_, _, rfl, rfl, hz, post_val h hS (.int _)⟩
    · exact h.elim
  · exact h.elim
theorem ad_pow : Adq2 G E (rI CPow fun i j => .int (i ^ j.toNat)) pPow := fun ρ H st x y v u Q hS rx ry h => by
  unfold pPow at h
  split at h
  · split at h
    · rename_i hz
      cases rx; cases ry
      exact ⟨_, _, rfl, rfl, ⟨hz.1, by omega, by have h1 := hz.2.2.1; have h2 := hz.2.2.2; simp only [B64] at h1 h2; omega⟩, post_val h hS (.int _)⟩
    · exact h.elim
  · exact h.elim
theorem ad_neg : Adq1 G E (rU fun i => .int (-i)) pNeg := fun ρ H st x v Q hS rx h => by
  unfold pNeg at h
  split at h
  · cases rx
    exact ⟨_, rfl, post_val h hS (.int _)⟩
  · exact h.elim
variable {a b : Expr} {fa fb : DE} {pos : Pos}
theorem ev_add (ha : EV X T E a fa) (hb : EV X T E b fb) : EV X T E (.BinOp a .Add b pos) (d2 pAdd fa fb) := ev_op op_addAll ad_add ha hb
theorem ev_sub (ha : EV X T E a fa) (hb : EV X T E b fb) : EV X T E (.BinOp a .Sub b pos) (d2 pSub fa fb) := ev_op op_sub ad_sub ha hb
theorem ev_mul (ha : EV X T E a fa) (hb : EV X T E b fb) : EV X T E (.BinOp a .Mult b pos) (d2 pMul fa fb) := ev_op op_mul ad_mul ha hb
theorem ev_div (ha : EV X T E a fa) (hb : EV X T E b fb) : EV X T E (.BinOp a .FloorDiv b pos) (d2 pDiv fa fb) := ev_op op_fdivW ad_div ha hb
theorem ev_mod (ha : EV X T E a fa) (hb : EV X T E b fb) : EV X T E (.BinOp a .Mod b pos) (d2 pMod fa fb) := ev_op op_mod ad_mod ha hb
theorem ev_pow (ha : EV X T E a fa) (hb : EV X T E b fb) : EV X T E (.BinOp a .Pow b pos) (d2 pPow fa fb) := ev_op op_pow ad_pow ha hb
theorem ev_neg (ha : EV X T E a fa) : EV X T E (.UnaryOp .USub a pos) (d1 pNeg fa) := ev_un un_neg ad_neg ha
end
end DN
set_option Elab.async false
set_option linter.all false
set_option maxRecDepth 100000
set_option maxHeartbeats 2000000
/-! DnExpr2: comparisons, tests, displays, subscripts, slices. -/
namespace DN
open PySem PySem.Spec PyProof.Rows L2

/-! ### data -/
mutual
def toD0 : PV → Option PyData
  | .non => some .none
  | .bl b => some (.bool b)
  | .int i => some (.int i)
  | .str x => some (.str x)
  | .tup l => (toD0s l).map .tuple
  | .lst l => (toD0s l).map .list
  | .scr l => (toD0s l).map .list
  | _ => none
def toD0s : List PV → Option (List PyData)
  | [] => some []
  | p :: ps => (toD0 p).bind fun d => (toD0s ps).map fun ds => d :: ds
end
def toD (p : PV) (st : Store) : Option PyData := match p with
  | .ref n => (match st[n]? with
    | some (.lst l) => (toD0s l).map .list
    | _ => none)
  | p => toD0 p
def kOf : PV → Option Key
  | .int i => some (.inl i)
  | .str x => some (.inr x)
  | _ => none
def kOfs : List PV → Option (List Key)
  | [] => some []
  | p :: ps => (kOf p).bind fun d => (kOfs ps).map fun ds => d :: ds
def look {κ α : Type} [DecidableEq κ] (es : List (κ × α)) (k : κ) : Option α := (es.find? fun e => decide (e.1 = k)).map (·.2)
/-- what a dict holds at a key; none: no dict, or a key of another sort -/
def dGet (d k : PV) (st : Store) : Option (Option PV) := match d with
  | .dK ks vs => (kOf k).map fun k => look (ks.zip vs) k
  | .dT ks vs => (match k with
    | .tup l => if isW l then none else (kOfs l).map fun k => look (ks.zip vs) k
    | _ => none)
  | .ref n => (match st[n]? with
    | some (.dK es) => (kOf k).map fun k => look es k
    | some (.dT es) => (match k with
      | .tup l => if isW l then none else (kOfs l).map fun k => look es k
      | _ => none)
    | _ => none)
  | _ => none

def pEqB (x y : PV) : M Bool := fun st => match x, y with
  | .int i, .int j => .ok (decide (i = j)) st
  | .str x, .str y => .ok (decide (x = y)) st
  | x, y => match toD x st, toD y st with
    | some d, some e => if SeqAt.shaped d = true ∧ SeqAt.shaped e = true then .ok (PyData.eqv d e) st else .fail
    | _, _ => .fail
def pEq (x y : PV) : M PV := fun st => (pEqB x y st).bind fun b st => .ok (.bl b) st
def pNe (x y : PV) : M PV := fun st => (pEqB x y st).bind fun b st => .ok (.bl (!b)) st
def pLtI (f : Int → Int → Bool) (x y : PV) : M PV := fun st => match x, y with
  | .int i, .int j => .ok (.bl (f i j)) st
  | _, _ => .fail
abbrev pLt : PV → PV → M PV := pLtI fun i j => decide (i < j)
abbrev pLe : PV → PV → M PV := pLtI fun i j => decide (i ≤ j)
abbrev pGt : PV → PV → M PV := pLtI fun i j => decide (j < i)
abbrev pGe : PV → PV → M PV := pLtI fun i j => decide (j ≤ i)
def isNon : PV → Bool
  | .non => true
  | _ => false
def pIsB (x y : PV) : M Bool := fun st => match y with
  | .non => .ok (isNon x) st
  | .bl b => (match x with
    | .bl a => .ok (decide (a = b)) st
    | _ => .fail)
  | _ => .fail
def pIs (x y : PV) : M PV := fun st => (pIsB x y st).bind fun b st => .ok (.bl b) st
def pIsNot (x y : PV) : M PV := fun st => (pIsB x y st).bind fun b st => .ok (.bl (!b)) st
def pInB (x y : PV) : M Bool := fun st => match dGet y x st with
  | some o => .ok o.isSome st
  | none => match x, y with
    | .str a, .str b => .ok (!(Builtin.Str.occurrences b a 0 b.length 1).isEmpty) st
    | x, y => match toD x st, toD y st with
      | some d, some (.list ds) => if SeqAt.shaped d = true ∧ SeqAt.shaped (.list ds) = true then .ok (ds.any fun z => PyData.eqv z d) st else .fail
      | some d, some (.tuple ds) => if SeqAt.shaped d = true ∧ SeqAt.shaped (.tuple ds) = true then .ok (ds.any fun z => PyData.eqv z d) st else .fail
      | _, _ => .fail
def pIn (x y : PV) : M PV := fun st => (pInB x y st).bind fun b st => .ok (.bl b) st
def pNotIn (x y : PV) : M PV := fun st => (pInB x y st).bind fun b st => .ok (.bl (!b)) st

section
variable {X : Cx} {T : TR} {E : XK} {G : DG} {ρ : List Addr} {H : Hp} {σ : St} {aσ : AE} {st : Store}
mutual
theorem toD0_dp : ∀ (p : PV) (d : PyData) (v : V), toD0 p = some d → Rl G ρ H p v → Dp G.K H v d
  | .non, d, v, h, r => by
    simp only [toD0, Option.some.injEq] at h
    subst h; cases r; exact .non
  | .bl b, d, v, h, r => by
    simp only [toD0, Option.some.injEq] at h
    subst h; cases r; exact .bl b
  | .int i, d, v, h, r => by
    simp only [toD0, Option.some.injEq] at h
    subst h; cases r; exact .int i
  | .str x, d, v, h, r => by
    simp only [toD0, Option.some.injEq] at h
    subst h; cases r; exact .str x
  | .tup l, d, v, h, r => by
    simp only [toD0] at h
    obtain ⟨ds, e, rfl⟩ := Option.map_eq_some_iff.mp h
    cases r with
    | tup q ra => exact .tup q.sq (toD0s_dp l ds _ e ra)
  | .lst l, d, v, h, r => by
    simp only [toD0] at h
    obtain ⟨ds, e, rfl⟩ := Option.map_eq_some_iff.mp h
    cases r with
    | lst q ra => exact .lst q.sq (toD0s_dp l ds _ e ra)
  | .scr l, d, v, h, r => by
    simp only [toD0] at h
    obtain ⟨ds, e, rfl⟩ := Option.map_eq_some_iff.mp h
    cases r with
    | scr q ra => exact .lst (q.elim (fun q => q.sq) fun q => q H) (toD0s_dp l ds _ e ra)
  | .dK _ _, _, _, h, _ => by simp [toD0] at h
  | .dT _ _, _, _, h, _ => by simp [toD0] at h
  | .ref _, _, _, h, _ => by simp [toD0] at h
  | .con _, _, _, h, _ => by simp [toD0] at h
  | .ty _, _, _, h, _ => by simp [toD0] at h
theorem toD0s_dp : ∀ (ps : List PV) (ds : List PyData) (vs : List V), toD0s ps = some ds → RlAll G ρ H ps vs → DpAll G.K H vs ds
  | [], ds, vs, h, r => by
    simp only [toD0s, Option.some.injEq] at h
    subst h; cases r; exact .nil
  | p :: ps, ds, vs, h, r => by
    simp only [toD0s] at h
    obtain ⟨d, e1, h⟩ := Option.bind_eq_some_iff.mp h
    obtain ⟨ds', e2, rfl⟩ := Option.map_eq_some_iff.mp h
    cases r with
    | cons r1 r2 => exact .cons (toD0_dp p d _ e1 r1) (toD0s_dp ps ds' _ e2 r2)
end
theorem toD_dp {p : PV} {d : PyData} {v : V} (hS : RlS G ρ H st) (h : toD p st = some d) (r : Rl G ρ H p v) : Dp G.K H v d := by
  unfold toD at h
  split at h
  · split at h
    · rename_i n _ l e
      obtain ⟨ds, e2, rfl⟩ := Option.map_eq_some_iff.mp h
      cases r with
      | ref q =>
        cases hS.ref q e with
        | lst h r => exact .lst (.inl (.inl h)) (toD0s_dp l ds _ e2 r)
    · cases h
  · exact toD0_dp p d v h r
theorem kOf_v {p : PV} {k : Key} {v : V} (h : kOf p = some k) (r : Rl G ρ H p v) : v = kV k := by
  unfold kOf at h
  split at h
  · cases h; cases r; rfl
  · cases h; cases r; rfl
  · cases h
theorem kOfs_v : ∀ {ps : List PV} {ks : List Key} {vs : List V}, kOfs ps = some ks → RlAll G ρ H ps vs → vs = ks.map kV
  | [], ks, vs, h, r => by
    simp only [kOfs, Option.some.injEq] at h
    subst h; cases r; rfl
  | p :: ps, ks, vs, h, r => by
    simp only [kOfs] at h
    obtain ⟨d, e1, h⟩ := Option.bind_eq_some_iff.mp h
    obtain ⟨ds', e2, rfl⟩ := Option.map_eq_some_iff.mp h
    cases r with
    | cons r1 r2 => rw [kOf_v e1 r1, kOfs_v e2 r2]; rfl
/-- a look-up here and there -/
def RlOp (G : DG) (ρ : List Addr) (H : Hp) : Option PV → Option V → Prop
  | some p, some v => Rl G ρ H p v
  | none, none => True
  | _, _ => False
theorem look_val {κ : Type} [DecidableEq κ] (k : κ) : ∀ (es : List (κ × PV)) (kvs : List (κ × V)), es.map (·.1) = kvs.map (·.1) → RlAll G ρ H (es.map (·.2)) (kvs.map (·.2)) → RlOp G ρ H (look es k) (valV kvs k)
  | [], [], _, _ => trivial
  | [], _ :: _, h, _ => by cases h
  | _ :: _, [], h, _ => by cases h
  | (a, p) :: es, (b, v) :: kvs, h, r => by
    simp only [List.map_cons, List.cons.injEq] at h
    obtain ⟨rfl, h⟩ := h
    simp only [List.map_cons] at r
    cases r with
    | cons r1 r2 =>
      have ih := look_val k es kvs h r2
      by_cases e : a = k
      · simp only [look, valV, List.find?_cons, e, decide_true, Option.map_some]
        exact r1
      · simp only [look, valV, List.find?_cons, e, decide_false] at ih ⊢
        exact ih
theorem zip_fst {κ : Type} : ∀ (ks : List κ) (vs : List PV), ks.length = vs.length → (ks.zip vs).map (·.1) = ks ∧ (ks.zip vs).map (·.2) = vs
  | [], [], _ => ⟨rfl, rfl⟩
  | [], _ :: _, h => by cases h
  | _ :: _, [], h => by cases h
  | k :: ks, v :: vs, h => by
    have ih := zip_fst ks vs (by simpa using h)
    simp [ih.1, ih.2]
theorem kOfs_f {l : List PV} {ks : List Key} (h : kOfs l = some ks) : isF l = false := by
  unfold isF
  split
  · simp [kOfs, kOf] at h
  · rfl
theorem tv_key {l : List PV} {ks : List Key} {b : V} (w : isW l = false) (h : kOfs l = some ks) (r : Rl G ρ H (.tup l) b) : ∃ a, b = .ref a ∧ H a = some (.tup (ks.map kV)) := by
  cases r with
  | tup q ra =>
    rw [kOfs_v h ra, w, kOfs_f h] at q
    rcases q with ⟨o, _, q⟩ | ⟨q, _⟩
    · exact ⟨_, rfl, q⟩
    · cases q
theorem dGet_rl {d k : PV} {o : Option PV} {x y : V} (hS : RlS G ρ H st) (h : dGet d k st = some o) (rd : Rl G ρ H d x) (rk : Rl G ρ H k y) : ∃ a o', x = .ref a ∧ DGet H a y o' ∧ RlOp G ρ H o o' := by
  unfold dGet at h
  split at h
  · rename_i ks vs
    obtain ⟨k1, e1, rfl⟩ := Option.map_eq_some_iff.mp h
    cases rd with
    | @dK a _ _ kvs hr hn hk ra =>
      have z := zip_fst ks vs (by rw [hk, List.length_map, ra.length, List.length_map])
      exact ⟨a, _, rfl, .inl ⟨kvs, k1, hr, kOf_v e1 rk, rfl⟩, look_val k1 _ kvs (by rw [z.1, hk]) (by rw [z.2]; exact ra)⟩
  · rename_i ks vs
    split at h
    · split at h
      · cases h
      · rename_i hw
        obtain ⟨k1, e1, rfl⟩ := Option.map_eq_some_iff.mp h
        cases rd with
        | @dT a _ _ kvs hr hn hk ra =>
          have z := zip_fst ks vs (by rw [hk, List.length_map, ra.length, List.length_map])
          obtain ⟨b, rfl, hb⟩ := tv_key (by simpa using hw) e1 rk
          exact ⟨a, _, rfl, .inr ⟨kvs, k1, b, hr, rfl, hb, rfl⟩, look_val k1 _ kvs (by rw [z.1, hk]) (by rw [z.2]; exact ra)⟩
    · cases h
  · split at h
    · rename_i n _ es e
      obtain ⟨k1, e1, rfl⟩ := Option.map_eq_some_iff.mp h
      cases rd with
      | @ref _ a q =>
        cases hS.ref q e with
        | @dK _ _ kvs hh hk ra => exact ⟨a, _, rfl, .inl ⟨kvs, k1, .inl hh, kOf_v e1 rk, rfl⟩, look_val k1 es kvs hk ra⟩
    · rename_i n _ es e
      split at h
      · split at h
        · cases h
        · rename_i hw
          obtain ⟨k1, e1, rfl⟩ := Option.map_eq_some_iff.mp h
          cases rd with
          | @ref _ a q =>
            cases hS.ref q e with
            | @dT _ _ kvs hh hk ra =>
              obtain ⟨b, rfl, hb⟩ := tv_key (by simpa using hw) e1 rk
              exact ⟨a, _, rfl, .inr ⟨kvs, k1, b, .inl hh, rfl, hb, rfl⟩, look_val k1 es kvs hk ra⟩
      · cases h
    · cases h
  · cases h
end
end DN
set_option Elab.async false
set_option linter.all false
set_option maxRecDepth 100000
set_option maxHeartbeats 2000000
/-! DnExpr3: comparisons, tests, displays, subscripts, slices: the rules. -/
namespace DN
open PySem PySem.Spec PyProof.Rows L2

section
variable {X : Cx} {T : TR} {E : XK} {G : DG} {ρ : List Addr} {H : Hp} {σ : St} {aσ : AE} {st : Store}
variable {a b c : Expr} {fa fb fc : DE} {pos : Pos}
theorem pst_map {α β : Type} {K : β → Store → List Addr → Hp → Prop} {r : Res α} {g : α → β} (h : Pst G E ρ H K (r.bind fun a st => .ok (g a) st)) : Pst G E ρ H (fun a st => K (g a) st) r := by
  cases r with
  | ok a st => exact h
  | exc c w st => exact h
  | fail => exact h

/-! ### == -/
def rEqA (K : PySem.W.Frag) : R2 := fun x y H Q => rEq x y H Q ∨ rEqD K x y H Q
def rNeA (K : PySem.W.Frag) : R2 := fun x y H Q => rNe x y H Q ∨ rNeD K x y H Q
theorem op_eqA (hu : X.A.units + 65 < cLine) : OpR X (compareOp .Eq) (rEqA X.K) := op_eq.or (op_eqD (by omega))
theorem op_neA (hu : X.A.units + 65 < cLine) : OpR X (compareOp .NotEq) (rNeA X.K) := op_ne.or (op_neD (by omega))
theorem eqB_rl {x y : PV} {v u : V} {W : Bool → Prop} (hS : RlS G ρ H st) (rx : Rl G ρ H x v) (ry : Rl G ρ H y u) (h : Pst G E ρ H (fun b st' _ _ => W b) (pEqB x y st)) :
    (scal v u = true ∧ W (decide (v = u))) ∨ ∃ d e, Dp G.K H v d ∧ Dp G.K H u e ∧ SeqAt.shaped d = true ∧ SeqAt.shaped e = true ∧ W (PyData.eqv d e) := by
  unfold pEqB at h
  split at h
  · rename_i i j
    cases rx; cases ry
    have h := h.ret hS
    refine .inl ⟨rfl, ?_⟩
    have e : decide (V.int i = V.int j) = decide (i = j) := by rw [Bool.eq_iff_iff]; simp
    rw [e]; exact h
  · rename_i i j
    cases rx; cases ry
    have h := h.ret hS
    refine .inl ⟨rfl, ?_⟩
    have e : decide (V.str i = V.str j) = decide (i = j) := by rw [Bool.eq_iff_iff]; simp
    rw [e]; exact h
  · split at h
    · rename_i d e e1 e2
      split at h
      · rename_i hs
        exact .inr ⟨d, e, toD_dp hS e1 rx, toD_dp hS e2 ry, hs.1, hs.2, h.ret hS⟩
      · exact h.elim
    · exact h.elim
theorem eqB_pure {x y : PV} {b : Bool} {st' : Store} (h : pEqB x y st = .ok b st') : st' = st := by
  unfold pEqB at h
  split at h
  · cases h; rfl
  · cases h; rfl
  · split at h
    · split at h
      · cases h; rfl
      · cases h
    · cases h
/-- a test that leaves the store as it is -/
theorem pst_still {K : Bool → Store → List Addr → Hp → Prop} {r : Res Bool} (hS : RlS G ρ H st) (hp : ∀ b st', r = .ok b st' → st' = st) (hx : ∀ c w s, r ≠ .exc c w s) (h : Pst G E ρ H K r) : Pst G E ρ H (fun b _ _ _ => K b st ρ H) r := by
  cases r with
  | ok b st' =>
    have e := hp b st' rfl
    subst e
    exact fun _ _ _ _ => h ρ H Ext.refl hS
  | exc c w s => exact (hx c w s rfl).elim
  | fail => exact h
theorem eqB_exc {x y : PV} : ∀ c w s, pEqB x y st ≠ .exc c w s := fun c w s h => by
  unfold pEqB at h
  split at h
  · cases h
  · cases h
  · split at h
    · split at h <;> cases h
    · cases h
theorem ad_eq : Adq2 G E (rEqA G.K) pEq := fun ρ H st x y v u Q hS rx ry h => by
  have h := pst_still hS (fun b st' => eqB_pure) eqB_exc (pst_map h)
  rcases eqB_rl (W := fun b => ∀ v, Rl G ρ H (.bl b) v → Q v H) hS rx ry h with ⟨s, q⟩ | ⟨d, e, h1, h2, h3, h4, q⟩
  · exact .inl ⟨s, q _ (.bl _)⟩
  · exact .inr ⟨d, e, h1, h2, h3, h4, q _ (.bl _)⟩
theorem ad_ne : Adq2 G E (rNeA G.K) pNe := fun ρ H st x y v u Q hS rx ry h => by
  have h := pst_still hS (fun b st' => eqB_pure) eqB_exc (pst_map h)
  rcases eqB_rl (W := fun b => ∀ v, Rl G ρ H (.bl (!b)) v → Q v H) hS rx ry h with ⟨s, q⟩ | ⟨d, e, h1, h2, h3, h4, q⟩
  · exact .inl ⟨s, q _ (.bl _)⟩
  · exact .inr ⟨d, e, h1, h2, h3, h4, q _ (.bl _)⟩
theorem ev_eq (hu : X.A.units + 65 < cLine) (ha : EV X T E a fa) (hb : EV X T E b fb) : EV X T E (.Compare a [.Eq] [b] pos) (d2 pEq fa fb) := ev_cmp (op_eqA hu) ad_eq (nomark _) ha hb
theorem ev_ne (hu : X.A.units + 65 < cLine) (ha : EV X T E a fa) (hb : EV X T E b fb) : EV X T E (.Compare a [.NotEq] [b] pos) (d2 pNe fa fb) := ev_cmp (op_neA hu) ad_ne (nomark _) ha hb

/-! ### < <= > >= -/
theorem ad_cmpI (f : Int → Int → Bool) : Adq2 G E (rI0 fun i j => .bl (f i j)) (pLtI f) := fun ρ H st x y v u Q hS rx ry h => by
  unfold pLtI at h
  split at h
  · cases rx; cases ry
    exact ⟨_, _, rfl, rfl, post_val h hS (.bl _)⟩
  · exact h.elim
theorem ev_lt (ha : EV X T E a fa) (hb : EV X T E b fb) : EV X T E (.Compare a [.Lt] [b] pos) (d2 pLt fa fb) := ev_cmp op_lt (ad_cmpI _) (nomark _) ha hb
theorem ev_le (ha : EV X T E a fa) (hb : EV X T E b fb) : EV X T E (.Compare a [.LtE] [b] pos) (d2 pLe fa fb) := ev_cmp op_le (ad_cmpI _) (nomark _) ha hb
theorem ev_gt (ha : EV X T E a fa) (hb : EV X T E b fb) : EV X T E (.Compare a [.Gt] [b] pos) (d2 pGt fa fb) := ev_cmp op_gt (ad_cmpI _) (nomark _) ha hb
theorem ev_ge (ha : EV X T E a fa) (hb : EV X T E b fb) : EV X T E (.Compare a [.GtE] [b] pos) (d2 pGe fa fb) := ev_cmp op_ge (ad_cmpI _) (nomark _) ha hb
/-- a op b op' c -/
def dChain (d d' : PV → PV → M PV) (f g h : DE) : DE := fun σ st => (f σ st).bind fun x st => (g σ st).bind fun y st => (d x y st).bind fun p st => (tB p st).bind fun k st => if k then (h σ st).bind fun z st => d' y z st else .ok (.bl false) st
theorem chain_read {f g : Int → Int → Bool} {Q : VK} (h : Tv G E (dChain (pLtI f) (pLtI g) fa fb fc) σ H Q) : tChain (rI0 fun i j => .bl (f i j)) (rI0 fun i j => .bl (g i j)) (Tv G E fa) (Tv G E fb) (Tv G E fc) σ H Q := by
  obtain ⟨ρ, aσ, st, hE, hS, h⟩ := h
  refine tv_bind hE hS h fun ρ1 H1 x v st1 _ s1 e1 rx h => tv_bind e1 s1 h fun ρ2 H2 y u st2 x2 s2 e2 ry h => ?_
  have rx := rx.ext x2
  cases x with
  | int i =>
    cases y with
    | int j =>
      cases rx; cases ry
      refine ⟨i, j, rfl, rfl, f i j, rfl, ?_⟩
      have h : Pst (G) E ρ2 H2 (KV (G) Q) (if f i j = true then (fc aσ st2).bind fun z st => pLtI g (.int j) z st else .ok (.bl false) st2) := h
      cases q : f i j with
      | true =>
        refine ite_tt ?_
        rw [q, if_pos rfl] at h
        refine tv_bind e2 s2 h fun ρ3 H3 z w st3 x3 s3 e3 rz h => ?_
        exact ad_cmpI g ρ3 H3 st3 (.int j) z (.int j) w Q s3 (.int j) rz h
      | false =>
        refine ite_ff ?_
        rw [q, if_neg Bool.false_ne_true] at h
        exact post_val h s2 (.bl false)
    | _ => exact h.elim
  | _ => exact h.elim

theorem ev_chainI {op op' : CmpOp} {f g : Int → Int → Bool} (ho : OpR X (compareOp op) (rI0 fun i j => .bl (f i j))) (ho' : OpR X (compareOp op') (rI0 fun i j => .bl (g i j))) (ha : EV X T E a fa) (hb : EV X T E b fb) (hc : EV X T E c fc)
    (hm : lastMarks [op, op'] [b, c] = false := by with_unfolding_all rfl) : EV X T E (.Compare a [op, op'] [b, c] pos) (dChain (pLtI f) (pLtI g) fa fb fc) := pe_imp (pe_chain ho ho' ha hb hc hm) fun σ H Q h => chain_read h
/-! ### is -/
theorem isNon_v {x : PV} {v : V} (r : Rl G ρ H x v) : decide (v = .non) = isNon x := by cases r <;> rfl
def rIs : R2 := fun x y H Q => (y = .non ∧ Q (.bl (decide (x = .non))) H) ∨ rIsB x y H Q
def rIsNot : R2 := fun x y H Q => (y = .non ∧ Q (.bl (!decide (x = .non))) H) ∨ rNotB x y H Q
theorem ad_is : Adq2 G E rIs pIs := fun ρ H st x y v u Q hS rx ry h => by
  unfold pIs pIsB at h
  split at h
  · cases ry
    refine .inl ⟨rfl, ?_⟩
    rw [isNon_v rx]
    exact post_val h hS (.bl _)
  · split at h
    · cases rx; cases ry
      exact .inr ⟨_, _, rfl, rfl, post_val h hS (.bl _)⟩
    · exact h.elim
  · exact h.elim
theorem ad_isNot : Adq2 G E rIsNot pIsNot := fun ρ H st x y v u Q hS rx ry h => by
  unfold pIsNot pIsB at h
  split at h
  · cases ry
    refine .inl ⟨rfl, ?_⟩
    rw [isNon_v rx]
    exact post_val h hS (.bl _)
  · split at h
    · cases rx; cases ry
      exact .inr ⟨_, _, rfl, rfl, post_val h hS (.bl _)⟩
    · exact h.elim
  · exact h.elim
theorem ev_is (ha : EV X T E a fa) (hb : EV X T E b fb) : EV X T E (.Compare a [.Is] [b] pos) (d2 pIs fa fb) := ev_cmp (op_isN.or op_isBl) ad_is (nomark _) ha hb
theorem ev_isNot (ha : EV X T E a fa) (hb : EV X T E b fb) : EV X T E (.Compare a [.IsNot] [b] pos) (d2 pIsNot fa fb) := ev_cmp (op_notN.or op_notBl) ad_isNot (nomark _) ha hb

/-! ### in -/
def rInT (K : PySem.W.Frag) (n : Bool) : R2 := fun x y H Q => ∃ d ds, Dp K H x d ∧ Dp K H y (.tuple ds) ∧ SeqAt.shaped d = true ∧ SeqAt.shaped (.tuple ds) = true ∧ Q (.bl (if n then !ds.any fun z => PyData.eqv z d else ds.any fun z => PyData.eqv z d)) H
theorem op_inT (hu : X.A.units + 65 < cLine) : OpR X (compareOp .In) (rInT X.K false) := by
  intro pins s σ H x y v u Q I rx ry h
  obtain ⟨d, ds, hd, he, sd, se, q⟩ := h
  obtain ⟨as, r1⟩ := Dp.reads I d x v hd rx
  obtain ⟨bs, r2⟩ := Dp.reads I (.tuple ds) y u he ry
  exact SeqAt.in_tuple_reads r2 r1 (SeqAt.canLay_of_shaped se) (SeqAt.canLay_of_shaped sd) (room_in_shaped sd hu) ⟨.bl _, H, I, rfl, q⟩
theorem op_notInT (hu : X.A.units + 65 < cLine) : OpR X (compareOp .NotIn) (rInT X.K true) := by
  intro pins s σ H x y v u Q I rx ry h
  obtain ⟨d, ds, hd, he, sd, se, q⟩ := h
  obtain ⟨as, r1⟩ := Dp.reads I d x v hd rx
  obtain ⟨bs, r2⟩ := Dp.reads I (.tuple ds) y u he ry
  exact SeqAt.notIn_tuple_reads r2 r1 (SeqAt.canLay_of_shaped se) (SeqAt.canLay_of_shaped sd) (room_in_shaped sd hu) ⟨.bl _, H, I, rfl, q⟩
def rInK (n : Bool) : R2 := fun y x H Q => ∃ a o, x = .ref a ∧ DGet H a y o ∧ Q (.bl (if n then !o.isSome else o.isSome)) H
theorem op_inK (hu : X.A.units + 65 < cLine) : OpR X (compareOp .In) (rInK false) := by
  intro pins s σ H y x u v Q I ry rx h
  obtain ⟨a, o, rfl, g, q⟩ := h
  cases rx
  exact d_in (by omega) I g ry fun s' I' => ⟨.bl _, H, I', rfl, q⟩
theorem op_notInK (hu : X.A.units + 65 < cLine) : OpR X (compareOp .NotIn) (rInK true) := by
  intro pins s σ H y x u v Q I ry rx h
  obtain ⟨a, o, rfl, g, q⟩ := h
  cases rx
  exact d_notIn (by omega) I g ry fun s' I' => ⟨.bl _, H, I', rfl, q⟩
def rInStr (n : Bool) : R2 := fun x y H Q => ∃ i j, x = .str i ∧ y = .str j ∧ Q (.bl (if n then !(!(Builtin.Str.occurrences j i 0 j.length 1).isEmpty) else !(Builtin.Str.occurrences j i 0 j.length 1).isEmpty)) H
def rInA (K : PySem.W.Frag) (n : Bool) : R2 := fun x y H Q => ((rInK n x y H Q ∨ rInStr n x y H Q) ∨ (∃ d ds, Dp K H x d ∧ Dp K H y (.list ds) ∧ SeqAt.shaped d = true ∧ SeqAt.shaped (.list ds) = true ∧ Q (.bl (if n then !ds.any fun z => PyData.eqv z d else ds.any fun z => PyData.eqv z d)) H)) ∨ rInT K n x y H Q
theorem op_inA (hu : X.A.units + 65 < cLine) : OpR X (compareOp .In) (rInA X.K false) := (((op_inK hu).or op_in_str).or (op_inD hu)).or (op_inT hu)
theorem op_notInA (hu : X.A.units + 65 < cLine) : OpR X (compareOp .NotIn) (rInA X.K true) := (((op_notInK hu).or op_notin_str).or (op_notInD hu)).or (op_notInT hu)
theorem RlOp.some_eq {o : Option PV} {o' : Option V} (r : RlOp G ρ H o o') : o'.isSome = o.isSome := by
  cases o <;> cases o' <;> first | rfl | exact r.elim
theorem inB_rl (n : Bool) {x y : PV} {v u : V} {W : Bool → Prop} {Q : VK} (hW : ∀ b, W b → Q (.bl (if n then !b else b)) H) (hS : RlS G ρ H st) (rx : Rl G ρ H x v) (ry : Rl G ρ H y u) (h : Pst G E ρ H (fun b _ _ _ => W b) (pInB x y st)) : rInA G.K n v u H Q := by
  unfold pInB at h
  split at h
  · rename_i o e
    obtain ⟨a, o', rfl, g, r⟩ := dGet_rl hS e ry rx
    refine .inl (.inl (.inl ⟨a, o', rfl, g, ?_⟩))
    rw [r.some_eq]
    exact hW _ (h.ret hS)
  · split at h
    · cases rx; cases ry
      exact .inl (.inl (.inr ⟨_, _, rfl, rfl, hW _ (h.ret hS)⟩))
    · split at h
      · rename_i d ds e1 e2
        split at h
        · rename_i hs
          exact .inl (.inr ⟨d, ds, toD_dp hS e1 rx, toD_dp hS e2 ry, hs.1, hs.2, hW _ (h.ret hS)⟩)
        · exact h.elim
      · rename_i d ds e1 e2
        split at h
        · rename_i hs
          exact .inr ⟨d, ds, toD_dp hS e1 rx, toD_dp hS e2 ry, hs.1, hs.2, hW _ (h.ret hS)⟩
        · exact h.elim
      · exact h.elim
theorem inB_pure {x y : PV} {b : Bool} {st' : Store} (h : pInB x y st = .ok b st') : st' = st := by
  unfold pInB at h
  split at h
  · cases h; rfl
  · split at h
    · cases h; rfl
    · split at h
      · split at h <;> cases h; rfl
      · split at h <;> cases h; rfl
      · cases h
theorem inB_exc {x y : PV} : ∀ c w s, pInB x y st ≠ .exc c w s := fun c w s h => by
  unfold pInB at h
  split at h
  · cases h
  · split at h
    · cases h
    · split at h
      · split at h <;> cases h
      · split at h <;> cases h
      · cases h
theorem ad_in : Adq2 G E (rInA G.K false) pIn := fun ρ H st x y v u Q hS rx ry h =>
  inB_rl false (W := fun b => ∀ v, Rl G ρ H (.bl b) v → Q v H) (fun b h => h _ (.bl b)) hS rx ry (pst_still hS (fun b st' => inB_pure) inB_exc (pst_map h))
theorem ad_notIn : Adq2 G E (rInA G.K true) pNotIn := fun ρ H st x y v u Q hS rx ry h =>
  inB_rl true (W := fun b => ∀ v, Rl G ρ H (.bl (!b)) v → Q v H) (fun b h => h _ (.bl _)) hS rx ry (pst_still hS (fun b st' => inB_pure) inB_exc (pst_map h))
theorem ev_in (hu : X.A.units + 65 < cLine) (ha : EV X T E a fa) (hb : EV X T E b fb) (hm : behindInMarks .In b = false := by rfl) : EV X T E (.Compare a [.In] [b] pos) (d2 pIn fa fb) := ev_cmp (op_inA hu) ad_in hm ha hb
theorem ev_notIn (hu : X.A.units + 65 < cLine) (ha : EV X T E a fa) (hb : EV X T E b fb) (hm : behindInMarks .NotIn b = false := by rfl) : EV X T E (.Compare a [.NotIn] [b] pos) (d2 pNotIn fa fb) := ev_cmp (op_notInA hu) ad_notIn hm ha hb
end
end DN
set_option Elab.async false
set_option linter.all false
set_option maxRecDepth 100000
set_option maxHeartbeats 2000000
/-! DnExpr4: tests, displays, subscripts, slices. -/
namespace DN
open PySem PySem.Spec PyProof.Rows L2

/-! ### readings -/
def pTruth (p : PV) : M Bool := fun st => match p with
  | .non => .ok false st
  | .bl b => .ok b st
  | .int i => .ok (i != 0) st
  | .str x => if x.length ≤ SZ then .ok ((x.length : Int) != 0) st else .fail
  | .tup l => .ok (!l.isEmpty) st
  | .ref n => (match st[n]? with
    | some (.lst l) => .ok (!l.isEmpty) st
    | some (.dK es) => .ok (!es.isEmpty) st
    | _ => .fail)
  | .lst l => .ok (!l.isEmpty) st
  | _ => .fail
def bTruth (f : DE) : DB := fun σ st => (f σ st).bind pTruth
def mTup (l : List PV) : M PV := fun st => if l.length ≤ SZ then .ok (.tup l) st else .fail
def mLst (l : List PV) : M PV := fun st => if l.length ≤ SZ then .ok (.lst l) st else .fail
/-- a list that will be changed -/
def mLstR (l : List PV) : M PV := fun st => if l.length ≤ SZ then .ok (.ref st.length) (st ++ [.lst l]) else .fail
def pIx (x y : PV) : M PV := fun st => match dGet x y st with
  | some (some v) => .ok v st
  | some none => .fail
  | none => match y with
    | .int i => (match x with
      | .tup l => (match atI l i with
        | some v => .ok v st
        | none => .fail)
      | .str z => if z.length ≤ SZ then (match atI z.cps.toList i with
        | some c => .ok (.str ⟨#[c]⟩) st
        | none => .fail) else .fail
      | x => match asR x st with
        | some l => (match atI l i with
          | some v => .ok v st
          | none => .fail)
        | none => .fail)
    | _ => .fail
def cut {α : Type} (xs : List α) (lo hi : Option Int) : List α := (xs.drop (HT.sIx xs.length 0 lo)).take (HT.sIx xs.length xs.length hi - HT.sIx xs.length 0 lo)
def pSl (x : PV) (lo hi : Option Int) : M PV := fun st => match x with
  | .tup l => .ok (.tup (cut l lo hi)) st
  | .str z => if z.length ≤ SZ then .ok (.str (cutS z lo hi)) st else .fail
  | x => match asL x st with
    | some l => .ok (.lst (cut l lo hi)) st
    | none => .fail
abbrev DO := AE → M (Option Int)
def oNone : DO := fun _ st => .ok none st
def oSome (f : DE) : DO := fun σ st => (f σ st).bind fun p st => match p with
  | .int i => .ok (some i) st
  | _ => .fail
def dSl (f : DE) (g h : DO) : DE := fun σ st => (f σ st).bind fun x st => (g σ st).bind fun lo st => (h σ st).bind fun hi st => pSl x lo hi st

section
variable {X : Cx} {T : TR} {E : XK} {G : DG} {ρ : List Addr} {H : Hp} {σ : St} {aσ : AE} {st : Store}
variable {e a b c : Expr} {fa fb fc f : DE} {g h : DB} {pos : Pos}
/-! ### tests -/
theorem tv_tB {W : Bool → Hp → Prop} (q : Tb G E (bVal f) σ H W) : L2.tB (Tv G E f) σ H W := by
  obtain ⟨ρ, aσ, st, hE, hS, h⟩ := q
  refine tv_bind hE hS h fun ρ1 H1 x v st1 _ s1 _ rx h => ?_
  cases x with
  | bl b => cases rx; exact ⟨b, rfl, h.ret s1⟩
  | _ => exact h.elim
theorem eb_val (h : EV X T E e f) (he : ∀ whole, isTrue e X.env whole = (do let v ← whole; standAt e.pos; holding [v] (truthy v)) := by intro _; rfl) : EB X T E e (bVal f) := pt_imp (pt_val h he) fun σ H W q => tv_tB q
theorem eb_cmp {op : CmpOp} {r : R2} {d : PV → PV → M PV} (ho : OpR X (compareOp op) r) (ad : Adq2 (gOf X T) E r d) (hm : behindInMarks op b = false) (ha : EV X T E a fa) (hb : EV X T E b fb) : EB X T E (.Compare a [op] [b] pos) (bVal (d2 d fa fb)) :=
  pt_imp (pt_cmpR ho ha hb hm) fun σ H W q => tv2 ad (tv_tB q)
theorem eb_eq (hu : X.A.units + 65 < cLine) (ha : EV X T E a fa) (hb : EV X T E b fb) : EB X T E (.Compare a [.Eq] [b] pos) (bVal (d2 pEq fa fb)) := eb_cmp (op_eqA hu) ad_eq (nomark _) ha hb
theorem eb_ne (hu : X.A.units + 65 < cLine) (ha : EV X T E a fa) (hb : EV X T E b fb) : EB X T E (.Compare a [.NotEq] [b] pos) (bVal (d2 pNe fa fb)) := eb_cmp (op_neA hu) ad_ne (nomark _) ha hb
theorem eb_lt (ha : EV X T E a fa) (hb : EV X T E b fb) : EB X T E (.Compare a [.Lt] [b] pos) (bVal (d2 pLt fa fb)) := eb_cmp op_lt (ad_cmpI _) (nomark _) ha hb
theorem eb_le (ha : EV X T E a fa) (hb : EV X T E b fb) : EB X T E (.Compare a [.LtE] [b] pos) (bVal (d2 pLe fa fb)) := eb_cmp op_le (ad_cmpI _) (nomark _) ha hb
theorem eb_gt (ha : EV X T E a fa) (hb : EV X T E b fb) : EB X T E (.Compare a [.Gt] [b] pos) (bVal (d2 pGt fa fb)) := eb_cmp op_gt (ad_cmpI _) (nomark _) ha hb
theorem eb_ge (ha : EV X T E a fa) (hb : EV X T E b fb) : EB X T E (.Compare a [.GtE] [b] pos) (bVal (d2 pGe fa fb)) := eb_cmp op_ge (ad_cmpI _) (nomark _) ha hb
theorem eb_is (ha : EV X T E a fa) (hb : EV X T E b fb) : EB X T E (.Compare a [.Is] [b] pos) (bVal (d2 pIs fa fb)) := eb_cmp (op_isN.or op_isBl) ad_is (nomark _) ha hb
theorem eb_isNot (ha : EV X T E a fa) (hb : EV X T E b fb) : EB X T E (.Compare a [.IsNot] [b] pos) (bVal (d2 pIsNot fa fb)) := eb_cmp (op_notN.or op_notBl) ad_isNot (nomark _) ha hb
theorem eb_in (hu : X.A.units + 65 < cLine) (ha : EV X T E a fa) (hb : EV X T E b fb) (hm : behindInMarks .In b = false := by rfl) : EB X T E (.Compare a [.In] [b] pos) (bVal (d2 pIn fa fb)) := eb_cmp (op_inA hu) ad_in hm ha hb
theorem eb_notIn (hu : X.A.units + 65 < cLine) (ha : EV X T E a fa) (hb : EV X T E b fb) (hm : behindInMarks .NotIn b = false := by rfl) : EB X T E (.Compare a [.NotIn] [b] pos) (bVal (d2 pNotIn fa fb)) := eb_cmp (op_notInA hu) ad_notIn hm ha hb
theorem eb_chainI {op op' : CmpOp} {f g : Int → Int → Bool} (ho : OpR X (compareOp op) (rI0 fun i j => .bl (f i j))) (ho' : OpR X (compareOp op') (rI0 fun i j => .bl (g i j))) (ha : EV X T E a fa) (hb : EV X T E b fb) (hc : EV X T E c fc)
    (hm : lastMarks [op, op'] [b, c] = false := by with_unfolding_all rfl) : EB X T E (.Compare a [op, op'] [b, c] pos) (bVal (dChain (pLtI f) (pLtI g) fa fb fc)) := pt_imp (pt_chain ho ho' ha hb hc hm) fun σ H W q => chain_read (tv_tB q)
theorem truth_rl {p : PV} {v : V} {W : Bool → Prop} (hS : RlS G ρ H st) (r : Rl G ρ H p v) (h : Pst G E ρ H (fun b _ _ _ => W b) (pTruth p st)) : ∃ k, TruV G.K v H k ∧ W k := by
  unfold pTruth at h
  split at h
  · cases r; exact ⟨_, rfl, h.ret hS⟩
  · cases r; exact ⟨_, rfl, h.ret hS⟩
  · cases r; exact ⟨_, rfl, h.ret hS⟩
  · split at h
    · rename_i hz
      cases r; exact ⟨_, ⟨by rw [SZ_eq]; exact hz, rfl⟩, h.ret hS⟩
    · exact h.elim
  · rename_i l
    cases r with
    | tup q ra =>
      refine ⟨_, .inr (.inl ⟨_, q.sq, rfl⟩), ?_⟩
      have := h.ret hS
      cases ra <;> exact this
  · split at h
    · rename_i n _ l e
      cases r with
      | ref q =>
        cases hS.ref q e with
        | lst hh ra =>
          refine ⟨_, .inl ⟨_, .inl (.inl hh), rfl⟩, ?_⟩
          have := h.ret hS
          cases ra <;> exact this
    · rename_i n _ es e
      cases r with
      | ref q =>
        cases hS.ref q e with
        | @dK _ _ kvs hh hk ra =>
          refine ⟨_, .inr (.inr ⟨_, hh, rfl⟩), ?_⟩
          have h := h.ret hS
          have e2 : kvs.isEmpty = es.isEmpty := by
            have z := congrArg List.length hk
            simp only [List.length_map] at z
            cases kvs <;> cases es <;> simp_all
          rw [e2]; exact h
    · exact h.elim
  · rename_i l
    cases r with
    | lst q ra =>
      refine ⟨_, .inl ⟨_, q.sq, rfl⟩, ?_⟩
      have := h.ret hS
      cases ra <;> exact this
  · exact h.elim
theorem truth_pure {x : PV} {b : Bool} {st' : Store} (h : pTruth x st = .ok b st') : st' = st := by
  unfold pTruth at h
  split at h <;> first | (cases h; rfl) | (split at h <;> first | (cases h; rfl) | cases h) | cases h
theorem truth_exc {x : PV} : ∀ c w s, pTruth x st ≠ .exc c w s := fun c w s h => by
  unfold pTruth at h
  split at h <;> first | cases h | (split at h <;> cases h)
theorem eb_truth (h : EV X T E e f) (he : ∀ whole, isTrue e X.env whole = (do let v ← whole; standAt e.pos; holding [v] (truthy v)) := by intro _; rfl) : EB X T E e (bTruth f) := pt_imp (pt_truth h he) fun σ H W q => by
  obtain ⟨ρ, aσ, st, hE, hS, h⟩ := q
  refine tv_bind hE hS h fun ρ1 H1 x v st1 _ s1 _ rx h => ?_
  exact truth_rl (W := fun b => W b H1) s1 rx (pst_still s1 (fun b st' => truth_pure) truth_exc h)
def EW (X : Cx) (T : TR) (E : XK) (e : Expr) (f : DB) : Prop := PW X e (Tb (gOf X T) E f)
theorem eb_w (h : EW X T E e g) : EB X T E e g := PW.pt h
theorem ew_and1 (h : EB X T E a g) : EW X T E (.BoolOp .And [a] pos) g := pw_and1 h
theorem ew_or1 (h : EB X T E a g) : EW X T E (.BoolOp .Or [a] pos) g := pw_or1 h
theorem tb_and {W : Bool → Hp → Prop} (q : Tb G E (bAnd g h) σ H W) : tAnd (Tb G E g) (Tb G E h) σ H W := by
  obtain ⟨ρ, aσ, st, hE, hS, h⟩ := q
  refine tb_bind hE hS h fun ρ1 H1 b st1 _ s1 e1 h => ?_
  cases b with
  | true => exact ite_tt ⟨ρ1, aσ, st1, e1, s1, h⟩
  | false => exact ite_ff (h.ret s1)
theorem tb_or {W : Bool → Hp → Prop} (q : Tb G E (bOr g h) σ H W) : tOr (Tb G E g) (Tb G E h) σ H W := by
  obtain ⟨ρ, aσ, st, hE, hS, h⟩ := q
  refine tb_bind hE hS h fun ρ1 H1 b st1 _ s1 e1 h => ?_
  cases b with
  | true => exact ite_tt (h.ret s1)
  | false => exact ite_ff ⟨ρ1, aσ, st1, e1, s1, h⟩
theorem ew_and {rest : List Expr} (ha : EB X T E a g) (hb : EW X T E (.BoolOp .And (b :: rest) pos) h) : EW X T E (.BoolOp .And (a :: b :: rest) pos) (bAnd g h) := pw_imp (pw_and ha hb) fun _ _ _ q => tb_and q
theorem ew_or {rest : List Expr} (ha : EB X T E a g) (hb : EW X T E (.BoolOp .Or (b :: rest) pos) h) : EW X T E (.BoolOp .Or (a :: b :: rest) pos) (bOr g h) := pw_imp (pw_or ha hb) fun _ _ _ q => tb_or q
theorem eb_not (ha : EB X T E a g) : EB X T E (.UnaryOp .Not a pos) (bNot g) := pt_imp (pt_not ha) fun σ H W q => by
  obtain ⟨ρ, aσ, st, hE, hS, h⟩ := q
  exact tb_bind hE hS h fun ρ1 H1 b st1 _ s1 e1 h => h.ret s1
/-! ### values -/
theorem ev_one {op} (h : EV X T E a fa) : EV X T E (.BoolOp op [a] pos) fa := pe_one h
theorem ev_and {rest : List Expr} (ha : EV X T E a fa) (hb : EV X T E (.BoolOp .And (b :: rest) pos) fb) : EV X T E (.BoolOp .And (a :: b :: rest) pos) (dAnd fa fb) := pe_imp (pe_and ha hb) fun σ H W q => by
  obtain ⟨ρ, aσ, st, hE, hS, h⟩ := q
  refine tv_bind hE hS h fun ρ1 H1 x v st1 _ s1 e1 rx h => ?_
  cases x with
  | bl b =>
    cases rx
    refine ⟨b, rfl, ?_⟩
    cases b with
    | true => exact ite_tt ⟨ρ1, aσ, st1, e1, s1, h⟩
    | false => exact ite_ff (post_val h s1 (.bl false))
  | _ => exact h.elim
theorem ev_or {rest : List Expr} (ha : EV X T E a fa) (hb : EV X T E (.BoolOp .Or (b :: rest) pos) fb) : EV X T E (.BoolOp .Or (a :: b :: rest) pos) (dOr fa fb) := pe_imp (pe_or ha hb) fun σ H W q => by
  obtain ⟨ρ, aσ, st, hE, hS, h⟩ := q
  refine tv_bind hE hS h fun ρ1 H1 x v st1 _ s1 e1 rx h => ?_
  cases x with
  | bl b =>
    cases rx
    refine ⟨b, rfl, ?_⟩
    cases b with
    | true => exact ite_tt (post_val h s1 (.bl true))
    | false => exact ite_ff ⟨ρ1, aσ, st1, e1, s1, h⟩
  | _ => exact h.elim
theorem ev_not (ha : EV X T E a fa) : EV X T E (.UnaryOp .Not a pos) (dNot fa) := pe_imp (pe_not ha) fun σ H W q => by
  obtain ⟨ρ, aσ, st, hE, hS, h⟩ := q
  refine tv_bind hE hS h fun ρ1 H1 x v st1 _ s1 e1 rx h => ?_
  cases x with
  | bl b => cases rx; exact ⟨b, rfl, post_val h s1 (.bl _)⟩
  | _ => exact h.elim
theorem ev_if (hc : EB X T E c g) (ha : EV X T E a fa) (hb : EV X T E b fb) : EV X T E (.IfExp c a b pos) (dIf g fa fb) := pe_imp (pe_ifExp hc ha hb) fun σ H W q => by
  obtain ⟨ρ, aσ, st, hE, hS, h⟩ := q
  refine tb_bind hE hS h fun ρ1 H1 b st1 _ s1 e1 h => ?_
  cases b with
  | true => exact ite_tt ⟨ρ1, aσ, st1, e1, s1, h⟩
  | false => exact ite_ff ⟨ρ1, aσ, st1, e1, s1, h⟩
/-! ### displays -/
variable {es : List Expr} {fs : DA}
theorem ea_nil : EA X T E [] dA0 := pa_imp pa_nil fun σ H W q => by
  obtain ⟨ρ, aσ, st, hE, hS, h⟩ := q
  exact h.ret hS _ .nil
theorem ea_cons (ha : EV X T E e f) (hr : EA X T E es fs) (hs : starEach (e :: es) X.env = (false, eval e X.env) :: starEach es X.env := by rfl) : EA X T E (e :: es) (dAc f fs) := pa_imp (pa_cons ha hr hs) fun σ H W q => by
  obtain ⟨ρ, aσ, st, hE, hS, h⟩ := q
  exact tv_bind hE hS h fun ρ1 H1 x v st1 _ s1 e1 rx h => ta_bind e1 s1 h fun ρ2 H2 xs vs st2 x2 s2 e2 rs h => h.ret s2 _ (.cons (rx.ext x2) rs)
theorem ad_tup : AdqL G E (fun xs H1 Q => xs.length ≤ sizeLine ∧ NewT H1 xs Q) mTup := fun ρ H st xs vs Q hS r h => by
  unfold mTup at h
  split at h
  · rename_i hz
    exact ⟨by rw [SZ_eq, ← r.length]; exact hz, post_tup h hS r⟩
  · exact h.elim
theorem ad_lst : AdqL G E (fun xs H1 Q => xs.length ≤ sizeLine ∧ ∀ p, H1 p = none → Q (.ref p) (upd H1 p (.lst xs))) mLst := fun ρ H st xs vs Q hS r h => by
  unfold mLst at h
  split at h
  · rename_i hz
    exact ⟨by rw [SZ_eq, ← r.length]; exact hz, fun p hp => post_lst h hS r hp⟩
  · exact h.elim
theorem ad_lstR : AdqL G E (fun xs H1 Q => xs.length ≤ sizeLine ∧ ∀ p, H1 p = none → Q (.ref p) (upd H1 p (.lst xs))) mLstR := fun ρ H st xs vs Q hS r h => by
  unfold mLstR at h
  split at h
  · rename_i hz
    exact ⟨by rw [SZ_eq, ← r.length]; exact hz, fun p hp => post_lstR h hS r hp⟩
  · exact h.elim
theorem ev_tup {x1} (h : EA X T E es fs) : EV X T E (.Tuple es x1 pos) (dAl mTup fs) := pe_imp (pe_tupF h) fun _ _ _ q => tvl ad_tup q
theorem ev_lst (h : EA X T E es fs) : EV X T E (.List es pos) (dAl mLst fs) := pe_imp (pe_lst h) fun _ _ _ q => tvl ad_lst q
theorem ev_lstR (h : EA X T E es fs) : EV X T E (.List es pos) (dAl mLstR fs) := pe_imp (pe_lst h) fun _ _ _ q => tvl ad_lstR q
end
end DN
set_option Elab.async false
set_option linter.all false
set_option maxRecDepth 100000
set_option maxHeartbeats 2000000
/-! DnExpr5: subscripts, slices, calls of built-ins. -/
namespace DN
open PySem PySem.Spec PyProof.Rows L2

section
variable {X : Cx} {T : TR} {E : XK} {G : DG} {ρ : List Addr} {H : Hp} {σ : St} {aσ : AE} {st : Store}
variable {e a b c : Expr} {fa fb fc f : DE} {g h : DB} {pos : Pos} {es : List Expr} {fs : DA}
theorem atI_rl {l : List PV} {xs : List V} {i : Int} {p : PV} (r : RlAll G ρ H l xs) (h : atI l i = some p) : ∃ v, atI xs i = some v ∧ Rl G ρ H p v := by
  unfold atI at h ⊢
  rw [← r.length]
  obtain ⟨j, e1, e2⟩ := Option.bind_eq_some_iff.mp h
  obtain ⟨v, e3, r3⟩ := r.get e2
  exact ⟨v, by rw [e1]; exact e3, r3⟩
def rIxK : R2 := fun x y H Q => ∃ a v, x = .ref a ∧ DGet H a y (some v) ∧ Q v H
theorem ix_dict (hu : X.A.units + 65 < cLine) : IxR X rIxK := by
  intro value slice pins s σ H x y v u Q I rx ry h hs
  obtain ⟨a, w, rfl, g, q⟩ := h
  cases rx
  have T := dict_typeIs I g
  unfold subscriptTail
  refine wpAny_bind ?_
  rw [getitemInPython_of_ne T.not_modules]
  refine wpAny_bind (wpAny_specialOf T PySem.F.slot_dict_getitem.lookup ?_)
  have fin : wpAny (model X.prog X.w) X.A (subscripted slice false (.ref a) u) (fun r s₃ => wpAny (model X.prog X.w) X.A (letTemporaryGo value (.ref a) r >>= fun _ => pure r) (EP X pins σ Q) X.xe s₃) X.xe s := by
    rw [hs]
    exact wpAny_operating (wpAny_mono (d_getItem (Q := fun w' s3 => EP X pins σ Q w' s3) (by omega) I g ry fun w' s3 I3 rw' => ⟨w, H, I3, rw', q⟩) (fun r s₃ h₃ => wpAny_bind (wpAny_letTemporaryGo (wpAny_pure h₃))) fun _ _ x => x)
  first
    | exact wpAny_pure (wpAny_bind fin)
    | exact wpAny_bind (wpAny_pure (wpAny_bind fin))
    | exact wpAny_bind fin
def rIxA (K : PySem.W.Frag) : R2 := fun x y H Q => rIxK x y H Q ∨ rIx K x y H Q
theorem ad_ix : Adq2 G E (rIxA G.K) pIx := fun ρ H st x y v u Q hS rx ry h => by
  unfold pIx at h
  split at h
  · rename_i w e
    obtain ⟨a, o, rfl, g, r⟩ := dGet_rl hS e rx ry
    cases o with
    | none => exact r.elim
    | some o => exact .inl ⟨a, o, rfl, g, post_val h hS r⟩
  · exact h.elim
  · split at h
    · rename_i i
      cases ry
      split at h
      · split at h
        · rename_i w e
          cases rx with
          | tup q ra =>
            obtain ⟨z, e2, r2⟩ := atI_rl ra e
            exact .inr (.inr (.inl ⟨_, _, _, z, rfl, rfl, q.sq, e2, post_val h hS r2⟩))
        · exact h.elim
      · split at h
        · rename_i hz
          split at h
          · rename_i c e
            cases rx
            exact .inr (.inr (.inr ⟨_, _, c, rfl, rfl, by rw [SZ_eq]; exact hz, e, post_val h hS (.str _)⟩))
          · exact h.elim
        · exact h.elim
      · split at h
        · rename_i l e
          split at h
          · rename_i w e1
            obtain ⟨a, xs, rfl, rd, ra⟩ := asR_rl hS rx e
            obtain ⟨z, e2, r2⟩ := atI_rl ra e1
            exact .inr (.inl ⟨_, _, _, z, rfl, rfl, rd, e2, post_val h hS r2⟩)
          · exact h.elim
        · exact h.elim
    · exact h.elim
theorem ev_ix (hu : X.A.units + 65 < cLine) (ha : EV X T E a fa) (hb : EV X T E b fb) (hs : PlainIx b := by exact fun _ _ => rfl) : EV X T E (.Subscript a b pos) (d2 pIx fa fb) := pe_imp (pe_ix ((ix_dict hu).or ix_seq) ha hb hs) fun _ _ _ q => tv2 ad_ix q

/-! ### slices -/
theorem RlAll.cut {l : List PV} {xs : List V} (lo hi : Option Int) (r : RlAll G ρ H l xs) : RlAll G ρ H (cut l lo hi) (cutV xs lo hi) := by
  unfold DN.cut cutV
  rw [r.length]
  exact (r.drop _).take _
theorem cut_whole {α : Type} (l : List α) (lo hi : Option Int) (h : HT.sIx l.length 0 lo = 0 ∧ HT.sIx l.length l.length hi = l.length) : cut l lo hi = l := by
  unfold cut
  rw [h.1, h.2]
  simp
def rSlAll (K : PySem.W.Frag) : V → Option Int → Option Int → Hp → VK → Prop := fun x lo hi H Q => (rSlF K x lo hi H Q ∨ rSlS x lo hi H Q) ∨ rSlL K x lo hi H Q
theorem sl_all : SlR X (rSlAll X.K) := (sl_tupF.or sl_str).or sl_list
theorem sl_rl {x : PV} {v : V} {lo hi : Option Int} {Q : VK} (hS : RlS G ρ H st) (rx : Rl G ρ H x v) (h : Pst G E ρ H (KV G Q) (pSl x lo hi st)) : rSlAll G.K v lo hi H Q := by
  unfold pSl at h
  split at h
  · rename_i l
    cases rx with
    | @tup a _ xs q ra =>
      refine .inl (.inl ⟨a, xs, rfl, q.sq, fun w => ?_, fun _ => post_tup h hS (ra.cut lo hi)⟩)
      rw [← ra.length] at w
      rw [cut_whole l lo hi w] at h
      exact post_val h hS (.tup q ra)
  · split at h
    · rename_i hz
      cases rx
      exact .inl (.inr ⟨_, rfl, by rw [SZ_eq]; exact hz, post_val h hS (.str _)⟩)
    · exact h.elim
  · split at h
    · rename_i l e
      obtain ⟨a, xs, rfl, rd, ra⟩ := asL_rl hS rx e
      exact .inr ⟨a, xs, rfl, .inl rd, fun p hp => post_lst h hS (ra.cut lo hi) hp⟩
    · exact h.elim
def To (G : DG) (E : XK) (f : DO) : TO := fun σ H Q => ∃ ρ aσ st, RlE G ρ H aσ σ ∧ RlS G ρ H st ∧ Pst G E ρ H (fun o _ _ H' => Q o H') (f aσ st)
def EO (X : Cx) (T : TR) (E : XK) (e : Option Expr) (f : DO) : Prop := PO X e (To (gOf X T) E f)
theorem po_imp {e : Option Expr} {t t' : TO} (h : PO X e t) (i : ∀ σ H Q, t' σ H Q → t σ H Q) : PO X e t' := ⟨fun pins s σ H Q I q => h.run pins s σ H Q I (i σ H Q q)⟩
theorem eo_none : EO X T E none oNone := po_imp po_none fun σ H W q => by
  obtain ⟨ρ, aσ, st, hE, hS, h⟩ := q
  exact h.ret hS
theorem eo_some (ha : EV X T E a fa) : EO X T E (some a) (oSome fa) := po_imp (po_some ha) fun σ H W q => by
  obtain ⟨ρ, aσ, st, hE, hS, h⟩ := q
  refine tv_bind hE hS h fun ρ1 H1 x v st1 _ s1 _ rx h => ?_
  cases x with
  | int i => cases rx; exact ⟨i, rfl, h.ret s1⟩
  | _ => exact h.elim
theorem to_bind {β : Type} {f : DO} {k : Option Int → Store → Res β} {K : β → Store → List Addr → Hp → Prop} {W : Option Int → Hp → Prop} (hE : RlE G ρ H aσ σ) (hS : RlS G ρ H st) (h : Pst G E ρ H K ((f aσ st).bind k))
    (q : ∀ ρ1 H1 o st1, Ext G.T ρ H ρ1 H1 → RlS G ρ1 H1 st1 → RlE G ρ1 H1 aσ σ → Pst G E ρ1 H1 K (k o st1) → W o H1) : To G E f σ H W :=
  ⟨ρ, aσ, st, hE, hS, h.bind.imp fun x st1 ρ1 H1 _ _ z => q ρ1 H1 x st1 z.1 z.2.1 (hE.ext z.1) z.2.2⟩
theorem ev_sl {lo hi : Option Expr} {fl fh : DO} {p2 : Pos} (ha : EV X T E a fa) (hl : EO X T E lo fl) (hh : EO X T E hi fh) : EV X T E (.Subscript a (.Slice lo hi none p2) pos) (dSl fa fl fh) := pe_imp (pe_slice sl_all ha hl hh) fun σ H W q => by
  obtain ⟨ρ, aσ, st, hE, hS, h⟩ := q
  exact tv_bind hE hS h fun ρ1 H1 x v st1 x1 s1 e1 rx h => to_bind e1 s1 h fun ρ2 H2 lo st2 x2 s2 e2 h => to_bind e2 s2 h fun ρ3 H3 hi st3 x3 s3 e3 h => sl_rl s3 ((rx.ext x2).ext x3) h

/-! ### calls of built-ins -/
variable {id Ty : String} {r : List V → Hp → VK → Prop} {d : List PV → M PV} {x : Str} {p : Pos}
theorem ev_bi (hc : CallR X (.builtin id) r) (ad : AdqL (gOf X T) E r d) (hg : Gl X x) (hm : X.mg x = none) (hv : bootBuiltins x = some (.builtin id)) (ha : EA X T E (e :: es) fs) (hn : x ≠ "__name__" := by decide) (hdb : (x == ("__debug__" : Str)) = false := by decide)
    (hs : starEach (e :: es) X.env = (false, eval e X.env) :: starEach es X.env := by rfl) (hpl : (backTo pos (starEach es X.env)).any (·.1) = false := by rfl) : EV X T E (.Call (.Name x p) (e :: es) [] pos) (dAl d fs) :=
  pe_imp (pe_callB hc hg hm hv ha hn hdb hs hpl) fun _ _ _ q => tvl ad q
theorem ev_ty (hc : CallR X (.type Ty) r) (ad : AdqL (gOf X T) E r d) (hg : Gl X x) (hm : X.mg x = none) (hv : bootBuiltins x = some (.type Ty)) (ha : EA X T E (e :: es) fs) (hn : x ≠ "__name__" := by decide) (hdb : (x == ("__debug__" : Str)) = false := by decide)
    (hs : starEach (e :: es) X.env = (false, eval e X.env) :: starEach es X.env := by rfl) (hpl : (backTo pos (starEach es X.env)).any (·.1) = false := by rfl) : EV X T E (.Call (.Name x p) (e :: es) [] pos) (dAl d fs) :=
  pe_imp (pe_callTy hc hg hm hv ha hn hdb hs hpl) fun _ _ _ q => tvl ad q
end
end DN
set_option Elab.async false
set_option linter.all false
set_option maxRecDepth 100000
set_option maxHeartbeats 2000000
/-! DnCall: built-ins by name. -/
namespace DN
open PySem PySem.Spec PyProof.Rows L2

/-! ### readings -/
def qLen (xs : List PV) : M PV := fun st => match xs with
  | [.str x] => if x.length ≤ SZ then .ok (.int x.length) st else .fail
  | [.tup l] => .ok (.int l.length) st
  | [.dK ks vs] => .fail
  | [.dT ks vs] => .fail
  | [.ref n] => (match st[n]? with
    | some (.lst l) => .ok (.int l.length) st
    | some (.dK es) => .ok (.int es.length) st
    | some (.dT es) => .ok (.int es.length) st
    | _ => .fail)
  | [.lst l] => .ok (.int l.length) st
  | [.scr l] => .ok (.int l.length) st
  | _ => .fail
def qInt (xs : List PV) : M PV := fun st => match xs with
  | [.int i] => .ok (.int i) st
  | [.bl b] => .ok (.int (if b then 1 else 0)) st
  | [.str x] => (match PySem.intText? x with
    | some n => if x.length ≤ 640 then .ok (.int n) st else .fail
    | none => .fail)
  | _ => .fail
def qStr (xs : List PV) : M PV := fun st => match xs with
  | [.int i] => if -B200 < i ∧ i < B200 then .ok (.str (toString i)) st else .fail
  | [.str x] => .ok (.str x) st
  | _ => .fail
def qTup (xs : List PV) : M PV := fun st => match xs with
  | [.tup l] => .ok (.tup l) st
  | [x] => (match asL x st with
    | some l => .ok (.tup l) st
    | none => .fail)
  | _ => .fail
/-- the items of a tuple, a list -/
def asI (p : PV) (st : Store) : Option (List PV) := match p with
  | .tup l => some l
  | p => asL p st
def qLst (xs : List PV) : M PV := fun st => match xs with
  | [x] => (match asI x st with
    | some l => .ok (.lst l) st
    | none => .fail)
  | _ => .fail
def qLstR (xs : List PV) : M PV := fun st => match xs with
  | [x] => (match asI x st with
    | some l => .ok (.ref st.length) (st ++ [.lst l])
    | none => .fail)
  | _ => .fail
def qMax (xs : List PV) : M PV := fun st => match xs with
  | [.int i, .int j] => .ok (.int (if j > i then j else i)) st
  | _ => .fail
def qMin (xs : List PV) : M PV := fun st => match xs with
  | [.int i, .int j] => .ok (.int (if j < i then j else i)) st
  | _ => .fail
def qAbs (xs : List PV) : M PV := fun st => match xs with
  | [.int i] => .ok (.int (if i < 0 then -i else i)) st
  | _ => .fail
/-- the name of a value's type -/
def tyN (p : PV) (st : Store) : Option String := match p with
  | .non => some "NoneType"
  | .bl _ => some "bool"
  | .int _ => some "int"
  | .str _ => some "str"
  | .tup _ => some "tuple"
  | .lst _ => some "list"
  | .ref n => (match st[n]? with
    | some (.lst _) => some "list"
    | some (.dK _) => some "dict"
    | some (.dT _) => some "dict"
    | _ => none)
  | _ => none
/-- isinstance of these -/
def isSub (a b : String) : Option Bool := match a, b with
  | "bool", "int" => some true
  | a, b => if a ∈ ["NoneType", "bool", "int", "str", "tuple", "list", "dict"] ∧ b ∈ ["bool", "int", "str", "tuple", "list", "dict"] then some (decide (a = b)) else none
def qIsI (xs : List PV) : M PV := fun st => match xs with
  | [x, .ty n] => (match (tyN x st).bind fun a => isSub a n with
    | some b => .ok (.bl b) st
    | none => .fail)
  | _ => .fail
/-- ints -/
def ints? : List PV → Option (List Int)
  | [] => some []
  | .int i :: r => (ints? r).map fun l => i :: l
  | _ :: _ => none
def ins (i : Int) : List Int → List Int
  | [] => [i]
  | j :: r => if i ≤ j then i :: j :: r else j :: ins i r
def isort : List Int → List Int
  | [] => []
  | i :: r => ins i (isort r)
def qSrtI (xs : List PV) : M PV := fun st => match xs with
  | [x] => (match (asL x st).bind ints? with
    | some l => .ok (.lst ((isort l).map PV.int)) st
    | none => .fail)
  | _ => .fail
def qSrtIR (xs : List PV) : M PV := fun st => match xs with
  | [x] => (match (asL x st).bind ints? with
    | some l => .ok (.ref st.length) (st ++ [.lst ((isort l).map PV.int)])
    | none => .fail)
  | _ => .fail
def rgP (a b : Int) : List PV := (List.range (b - a).toNat).map fun i => PV.int (a + (i : Nat))

/-! ### sorting of ints -/
theorem ins_perm (i : Int) : ∀ l : List Int, (ins i l).Perm (i :: l)
  | [] => List.Perm.refl _
  | j :: r => by
    unfold ins
    split
    · exact List.Perm.refl _
    · exact ((ins_perm i r).cons j).trans (List.Perm.swap i j r)
theorem isort_perm : ∀ l : List Int, (isort l).Perm l
  | [] => List.Perm.refl _
  | i :: r => (ins_perm i (isort r)).trans ((isort_perm r).cons i)
theorem ins_sorted (i : Int) : ∀ l : List Int, l.Pairwise (· ≤ ·) → (ins i l).Pairwise (· ≤ ·)
  | [], _ => by simp [ins]
  | j :: r, h => by
    unfold ins
    split
    · rename_i hij
      rw [List.pairwise_cons]
      refine ⟨fun a ha => ?_, h⟩
      rcases List.mem_cons.mp ha with rfl | ha
      · exact hij
      · exact Int.le_trans hij ((List.pairwise_cons.mp h).1 a ha)
    · rename_i hij
      rw [List.pairwise_cons]
      refine ⟨fun a ha => ?_, ins_sorted i r (List.pairwise_cons.mp h).2⟩
      rcases List.mem_cons.mp ((ins_perm i r).mem_iff.mp ha) with rfl | ha
      · omega
      · exact (List.pairwise_cons.mp h).1 a ha
theorem isort_sorted : ∀ l : List Int, (isort l).Pairwise (· ≤ ·)
  | [] => List.Pairwise.nil
  | i :: r => ins_sorted i _ (isort_sorted r)
theorem sorted_unique : ∀ {a b : List Int}, a.Perm b → a.Pairwise (· ≤ ·) → b.Pairwise (· ≤ ·) → a = b := fun {a b} p ha hb =>
  p.eq_of_pairwise (fun x y _ _ h1 h2 => Int.le_antisymm h1 h2) ha hb

section
variable {X : Cx} {T : TR} {E : XK} {G : DG} {ρ : List Addr} {H : Hp} {σ : St} {aσ : AE} {st : Store}
theorem all1 {p : PV} {vs : List V} (r : RlAll G ρ H [p] vs) : ∃ v, vs = [v] ∧ Rl G ρ H p v := by
  cases r with
  | cons r t => cases t; exact ⟨_, rfl, r⟩
theorem all2 {p q : PV} {vs : List V} (r : RlAll G ρ H [p, q] vs) : ∃ v w, vs = [v, w] ∧ Rl G ρ H p v ∧ Rl G ρ H q w := by
  cases r with
  | cons r t => cases t with
    | cons r2 t => cases t; exact ⟨_, _, rfl, r, r2⟩
theorem asI_rl {p : PV} {v : V} {l : List PV} (hS : RlS G ρ H st) (r : Rl G ρ H p v) (h : asI p st = some l) : ∃ a xs, v = .ref a ∧ (SqL G.K H a xs ∨ SqT G.K H a xs) ∧ RlAll G ρ H l xs := by
  unfold asI at h
  split at h
  · cases h
    cases r with
    | tup q ra => exact ⟨_, _, rfl, .inr q.sq, ra⟩
  · obtain ⟨a, xs, e, rd, ra⟩ := asL_rl hS r h
    exact ⟨a, xs, e, .inl (.inl rd), ra⟩
def rLenAll (K : PySem.W.Frag) : List V → Hp → VK → Prop := fun xs H Q => ((∃ x n, xs = [x] ∧ LenV K x H n ∧ Q (.int n) H) ∨ (∃ a kvs, xs = [V.ref a] ∧ H a = some (.dK kvs) ∧ Q (.int kvs.length) H)) ∨ rLenT xs H Q
theorem call_lenAll : CallR X (.builtin "len") (rLenAll X.K) := (call_len.or call_lenD).or call_len_dT
theorem ad_len : AdqL G E (rLenAll G.K) qLen := fun ρ H st xs vs Q hS rs h => by
  unfold qLen at h
  split at h
  · split at h
    · rename_i x hz
      obtain ⟨v, rfl, r⟩ := all1 rs
      cases r
      exact .inl (.inl ⟨_, _, rfl, ⟨by rw [SZ_eq]; exact hz, rfl⟩, post_val h hS (.int _)⟩)
    · exact h.elim
  · obtain ⟨v, rfl, r⟩ := all1 rs
    cases r with
    | tup q ra => exact .inl (.inl ⟨_, _, rfl, .inr ⟨_, q.sq, rfl⟩, by rw [← ra.length]; exact post_val h hS (.int _)⟩)
  · exact h.elim
  · exact h.elim
  · rename_i n
    obtain ⟨v, rfl, r⟩ := all1 rs
    cases r with
    | ref q =>
      split at h
      · rename_i l e
        cases hS.ref q e with
        | lst hh ra => exact .inl (.inl ⟨_, _, rfl, .inl ⟨_, .inl (.inl hh), rfl⟩, by rw [← ra.length]; exact post_val h hS (.int _)⟩)
      · rename_i es e
        cases hS.ref q e with
        | @dK _ _ kvs hh hk ra =>
          have z := congrArg List.length hk
          simp only [List.length_map] at z
          exact .inl (.inr ⟨_, kvs, rfl, hh, by rw [← z]; exact post_val h hS (.int _)⟩)
      · rename_i es e
        cases hS.ref q e with
        | @dT _ _ kvs hh hk ra =>
          have z := congrArg List.length hk
          simp only [List.length_map] at z
          exact .inr ⟨_, kvs, rfl, hh, by rw [← z]; exact post_val h hS (.int _)⟩
      · exact h.elim
  · obtain ⟨v, rfl, r⟩ := all1 rs
    cases r with
    | lst q ra => exact .inl (.inl ⟨_, _, rfl, .inl ⟨_, q.sq, rfl⟩, by rw [← ra.length]; exact post_val h hS (.int _)⟩)
  · obtain ⟨v, rfl, r⟩ := all1 rs
    cases r with
    | scr q ra => exact .inl (.inl ⟨_, _, rfl, .inl ⟨_, q.elim (fun q => q.sq) (fun q => q H), rfl⟩, by rw [← ra.length]; exact post_val h hS (.int _)⟩)
  · exact h.elim
def rIntAll : List V → Hp → VK → Prop := fun xs H Q => ((∃ i, xs = [.int i] ∧ Q (.int i) H) ∨ ∃ k, xs = [.bl k] ∧ Q (.int (if k then 1 else 0)) H) ∨ (∃ a n, xs = [.str a] ∧ PySem.intText? a = some n ∧ a.length ≤ 640 ∧ Q (.int n) H)
theorem call_intAll : CallR X (.type "int") rIntAll := call_int1.or call_int_str
theorem ad_int : AdqL G E rIntAll qInt := fun ρ H st xs vs Q hS rs h => by
  unfold qInt at h
  split at h
  · obtain ⟨v, rfl, r⟩ := all1 rs
    cases r
    exact .inl (.inl ⟨_, rfl, post_val h hS (.int _)⟩)
  · obtain ⟨v, rfl, r⟩ := all1 rs
    cases r
    exact .inl (.inr ⟨_, rfl, post_val h hS (.int _)⟩)
  · obtain ⟨v, rfl, r⟩ := all1 rs
    cases r
    split at h
    · rename_i n e
      split at h
      · rename_i hz
        exact .inr ⟨_, n, rfl, e, hz, post_val h hS (.int _)⟩
      · exact h.elim
    · exact h.elim
  · exact h.elim
def rStrAll : List V → Hp → VK → Prop := fun xs H Q => (∃ i, xs = [.int i] ∧ i.natAbs.log2 < 1920 ∧ Q (.str (toString i)) H) ∨ (∃ a, xs = [.str a] ∧ Q (.str a) H)
theorem call_strAll : CallR X (.type "str") rStrAll := call_str_int.or SkE.call_str_str
theorem ad_str : AdqL G E rStrAll qStr := fun ρ H st xs vs Q hS rs h => by
  unfold qStr at h
  split at h
  · split at h
    · rename_i i hz
      obtain ⟨v, rfl, r⟩ := all1 rs
      cases r
      refine .inl ⟨_, rfl, ?_, post_val h hS (.str _)⟩
      have h1 := hz.1
      have h2 := hz.2
      simp only [B200] at h1 h2
      have e : (2 : Nat) ^ 200 = 1606938044258990275541962092341162602522202993782792835301376 := by decide
      have := PySem.Flt.log2_lt_of (n := i.natAbs) (k := 200) (by decide) (by rw [e]; omega)
      omega
    · exact h.elim
  · obtain ⟨v, rfl, r⟩ := all1 rs
    cases r
    exact .inr ⟨_, rfl, post_val h hS (.str _)⟩
  · exact h.elim
theorem ad_tupOf : AdqL G E (rTupF G.K) qTup := fun ρ H st xs vs Q hS rs h => by
  unfold qTup at h
  split at h
  · obtain ⟨v, rfl, r⟩ := all1 rs
    cases r with
    | tup q ra => exact ⟨_, _, rfl, .inr ⟨q.sq, post_val h hS (.tup q ra)⟩⟩
  · obtain ⟨v, rfl, r⟩ := all1 rs
    split at h
    · rename_i l e
      obtain ⟨a, xs, rfl, rd, ra⟩ := asL_rl hS r e
      exact ⟨_, _, rfl, .inl ⟨.inl rd, post_tup h hS ra⟩⟩
    · exact h.elim
  · exact h.elim
theorem ad_lstOf : AdqL G E (fun xs H Q => ∃ p ys, xs = [.ref p] ∧ (SqL G.K H p ys ∨ SqT G.K H p ys) ∧ ∀ l, H l = none → Q (.ref l) (upd H l (.lst ys))) qLst := fun ρ H st xs vs Q hS rs h => by
  unfold qLst at h
  split at h
  · obtain ⟨v, rfl, r⟩ := all1 rs
    split at h
    · rename_i l e
      obtain ⟨a, xs, rfl, rd, ra⟩ := asI_rl hS r e
      exact ⟨_, _, rfl, rd, fun p hp => post_lst h hS ra hp⟩
    · exact h.elim
  · exact h.elim
theorem ad_lstOfR : AdqL G E (fun xs H Q => ∃ p ys, xs = [.ref p] ∧ (SqL G.K H p ys ∨ SqT G.K H p ys) ∧ ∀ l, H l = none → Q (.ref l) (upd H l (.lst ys))) qLstR := fun ρ H st xs vs Q hS rs h => by
  unfold qLstR at h
  split at h
  · obtain ⟨v, rfl, r⟩ := all1 rs
    split at h
    · rename_i l e
      obtain ⟨a, xs, rfl, rd, ra⟩ := asI_rl hS r e
      exact ⟨_, _, rfl, rd, fun p hp => post_lstR h hS ra hp⟩
    · exact h.elim
  · exact h.elim
theorem ad_max : AdqL G E (fun xs H Q => ∃ i j, xs = [.int i, .int j] ∧ Q (.int (if j > i then j else i)) H) qMax := fun ρ H st xs vs Q hS rs h => by
  unfold qMax at h
  split at h
  · obtain ⟨v, w, rfl, r1, r2⟩ := all2 rs
    cases r1; cases r2
    exact ⟨_, _, rfl, post_val h hS (.int _)⟩
  · exact h.elim
theorem ad_min : AdqL G E (fun xs H Q => ∃ i j, xs = [.int i, .int j] ∧ Q (.int (if j < i then j else i)) H) qMin := fun ρ H st xs vs Q hS rs h => by
  unfold qMin at h
  split at h
  · obtain ⟨v, w, rfl, r1, r2⟩ := all2 rs
    cases r1; cases r2
    exact ⟨_, _, rfl, post_val h hS (.int _)⟩
  · exact h.elim
theorem ad_abs : AdqL G E (fun xs H Q => ∃ i, xs = [.int i] ∧ Q (.int (if i < 0 then -i else i)) H) qAbs := fun ρ H st xs vs Q hS rs h => by
  unfold qAbs at h
  split at h
  · obtain ⟨v, rfl, r1⟩ := all1 rs
    cases r1
    exact ⟨_, rfl, post_val h hS (.int _)⟩
  · exact h.elim
/-! isinstance -/
theorem tyN_x {p : PV} {v : V} {t : String} (hS : RlS G ρ H st) (r : Rl G ρ H p v) (h : tyN p st = some t) : TyX G.K H v (.type t) := by
  unfold tyN at h
  split at h
  · cases h; cases r; exact .base .non
  · cases h; cases r; exact .base (.bl _)
  · cases h; cases r; exact .base (.int _)
  · cases h; cases r; exact .base (.str _)
  · cases h
    cases r with
    | tup q ra =>
      rcases q with ⟨o, _, q⟩ | ⟨_, o, its, n, e, c, _⟩
      · generalize isF _ = f at q
        cases f
        · exact .base (.tup q)
        · exact .fTuple q
      · exact .kTuple e c
  · cases h
    cases r with
    | lst q ra =>
      rcases q.1 with q | ⟨o, q⟩
      · exact .base (.lst q)
      · exact .base (.frz q)
  · split at h
    · rename_i n _ l e
      cases h
      cases r with
      | ref q =>
        cases hS.ref q e with
        | lst hh ra => exact .base (.lst hh)
    · rename_i n _ l e
      cases h
      cases r with
      | ref q =>
        cases hS.ref q e with
        | dK hh hk ra => exact .base (.dK hh)
    · rename_i n _ l e
      cases h
      cases r with
      | ref q =>
        cases hS.ref q e with
        | dT hh hk ra => exact .base (.dT hh)
    · cases h
  · cases h
theorem isSub_kit {K : PySem.W.Frag} {a b : String} {k : Bool} (h : isSub a b = some k) : PySem.W.kitOne K (.type a) (.type b) = some k := by
  refine kit_ty ?_
  unfold isSub at h
  split at h
  · cases h; decide +kernel
  · split at h
    · rename_i hm
      obtain ⟨h1, h2⟩ := hm
      cases h
      simp only [List.mem_cons, List.not_mem_nil, or_false] at h1 h2
      rename_i hne
      rcases h1 with rfl | rfl | rfl | rfl | rfl | rfl | rfl <;> rcases h2 with rfl | rfl | rfl | rfl | rfl | rfl <;> first | (exact (hne rfl rfl).elim) | decide +kernel
    · cases h
theorem ad_isi : AdqL G E (rIsi G.K) qIsI := fun ρ H st xs vs Q hS rs h => by
  unfold qIsI at h
  split at h
  · rename_i x n
    obtain ⟨v, w, rfl, r1, r2⟩ := all2 rs
    cases r2
    split at h
    · rename_i b e
      obtain ⟨t, e1, e2⟩ := Option.bind_eq_some_iff.mp e
      exact ⟨v, _, _, _, b, rfl, .ty n, tyN_x hS r1 e1, isSub_kit e2, post_val h hS (.bl _)⟩
    · exact h.elim
  · exact h.elim
/-! sorted -/
theorem ints_rl : ∀ {l : List PV} {xs : List V} {ns : List Int}, ints? l = some ns → RlAll G ρ H l xs → xs = ns.map V.int
  | [], xs, ns, h, r => by
    simp only [ints?, Option.some.injEq] at h
    subst h; cases r; rfl
  | p :: l, xs, ns, h, r => by
    cases p with
    | int i =>
      simp only [ints?] at h
      obtain ⟨ms, e, rfl⟩ := Option.map_eq_some_iff.mp h
      cases r with
      | cons r1 r2 =>
        cases r1
        rw [ints_rl e r2]; rfl
    | _ => simp [ints?] at h
theorem rl_ints : ∀ ns : List Int, RlAll G ρ H (ns.map PV.int) (ns.map V.int)
  | [] => .nil
  | i :: r => .cons (.int i) (rl_ints r)
theorem ad_srtI : AdqL G E (rSortedI G.K) qSrtI := fun ρ H st xs vs Q hS rs h => by
  unfold qSrtI at h
  split at h
  · obtain ⟨v, rfl, r⟩ := all1 rs
    split at h
    · rename_i ns e
      obtain ⟨l, e1, e2⟩ := Option.bind_eq_some_iff.mp e
      obtain ⟨a, xs, rfl, rd, ra⟩ := asL_rl hS r e1
      have ex := ints_rl e2 ra
      subst ex
      refine ⟨a, ns, rfl, .inl rd, fun ns' p hp ho hn => ?_⟩
      have e3 : ns' = isort ns := sorted_unique (hp.trans (isort_perm ns).symm) ho (isort_sorted ns)
      subst e3
      exact post_lst h hS (rl_ints _) hn
    · exact h.elim
  · exact h.elim
theorem ad_srtIR : AdqL G E (rSortedI G.K) qSrtIR := fun ρ H st xs vs Q hS rs h => by
  unfold qSrtIR at h
  split at h
  · obtain ⟨v, rfl, r⟩ := all1 rs
    split at h
    · rename_i ns e
      obtain ⟨l, e1, e2⟩ := Option.bind_eq_some_iff.mp e
      obtain ⟨a, xs, rfl, rd, ra⟩ := asL_rl hS r e1
      have ex := ints_rl e2 ra
      subst ex
      refine ⟨a, ns, rfl, .inl rd, fun ns' p hp ho hn => ?_⟩
      have e3 : ns' = isort ns := sorted_unique (hp.trans (isort_perm ns).symm) ho (isort_sorted ns)
      subst e3
      exact post_lstR h hS (rl_ints _) hn
    · exact h.elim
  · exact h.elim

/-! ### the rules -/
variable {e a b c : Expr} {fa fb fc f : DE} {pos p : Pos} {es : List Expr} {fs : DA}
theorem ev_len (hg : Gl X "len") (hm : X.mg "len" = none) (ha : EA X T E (e :: es) fs) (hs : starEach (e :: es) X.env = (false, eval e X.env) :: starEach es X.env := by rfl) (hpl : (backTo pos (starEach es X.env)).any (·.1) = false := by rfl) : EV X T E (.Call (.Name "len" p) (e :: es) [] pos) (dAl qLen fs) :=
  ev_bi call_lenAll ad_len hg hm PySem.boot_len ha (by decide) (by decide) hs hpl
theorem ev_intC (hg : Gl X "int") (hm : X.mg "int" = none) (ha : EA X T E (e :: es) fs) (hs : starEach (e :: es) X.env = (false, eval e X.env) :: starEach es X.env := by rfl) (hpl : (backTo pos (starEach es X.env)).any (·.1) = false := by rfl) : EV X T E (.Call (.Name "int" p) (e :: es) [] pos) (dAl qInt fs) :=
  ev_ty call_intAll ad_int hg hm (by decide +kernel) ha (by decide) (by decide) hs hpl
theorem ev_strC (hg : Gl X "str") (hm : X.mg "str" = none) (ha : EA X T E (e :: es) fs) (hs : starEach (e :: es) X.env = (false, eval e X.env) :: starEach es X.env := by rfl) (hpl : (backTo pos (starEach es X.env)).any (·.1) = false := by rfl) : EV X T E (.Call (.Name "str" p) (e :: es) [] pos) (dAl qStr fs) :=
  ev_ty call_strAll ad_str hg hm (by decide +kernel) ha (by decide) (by decide) hs hpl
theorem ev_tupC (hg : Gl X "tuple") (hm : X.mg "tuple" = none) (ha : EA X T E (e :: es) fs) (hs : starEach (e :: es) X.env = (false, eval e X.env) :: starEach es X.env := by rfl) (hpl : (backTo pos (starEach es X.env)).any (·.1) = false := by rfl) : EV X T E (.Call (.Name "tuple" p) (e :: es) [] pos) (dAl qTup fs) :=
  ev_ty call_tupleF ad_tupOf hg hm (by decide +kernel) ha (by decide) (by decide) hs hpl
theorem ev_lstC (hg : Gl X "list") (hm : X.mg "list" = none) (ha : EA X T E (e :: es) fs) (hs : starEach (e :: es) X.env = (false, eval e X.env) :: starEach es X.env := by rfl) (hpl : (backTo pos (starEach es X.env)).any (·.1) = false := by rfl) : EV X T E (.Call (.Name "list" p) (e :: es) [] pos) (dAl qLst fs) :=
  ev_ty call_list_of ad_lstOf hg hm (by decide +kernel) ha (by decide) (by decide) hs hpl
theorem ev_lstCR (hg : Gl X "list") (hm : X.mg "list" = none) (ha : EA X T E (e :: es) fs) (hs : starEach (e :: es) X.env = (false, eval e X.env) :: starEach es X.env := by rfl) (hpl : (backTo pos (starEach es X.env)).any (·.1) = false := by rfl) : EV X T E (.Call (.Name "list" p) (e :: es) [] pos) (dAl qLstR fs) :=
  ev_ty call_list_of ad_lstOfR hg hm (by decide +kernel) ha (by decide) (by decide) hs hpl
theorem ev_max (hc : X.calm = true) (hg : Gl X "max") (hm : X.mg "max" = none) (ha : EA X T E (e :: es) fs) (hs : starEach (e :: es) X.env = (false, eval e X.env) :: starEach es X.env := by rfl) (hpl : (backTo pos (starEach es X.env)).any (·.1) = false := by rfl) : EV X T E (.Call (.Name "max" p) (e :: es) [] pos) (dAl qMax fs) :=
  ev_bi (call_max2 hc) ad_max hg hm (by decide +kernel) ha (by decide) (by decide) hs hpl
theorem ev_min (hc : X.calm = true) (hg : Gl X "min") (hm : X.mg "min" = none) (ha : EA X T E (e :: es) fs) (hs : starEach (e :: es) X.env = (false, eval e X.env) :: starEach es X.env := by rfl) (hpl : (backTo pos (starEach es X.env)).any (·.1) = false := by rfl) : EV X T E (.Call (.Name "min" p) (e :: es) [] pos) (dAl qMin fs) :=
  ev_bi (call_min2 hc) ad_min hg hm (by decide +kernel) ha (by decide) (by decide) hs hpl
theorem ev_isi (hg : Gl X "isinstance") (hm : X.mg "isinstance" = none) (ha : EA X T E (e :: es) fs) (hs : starEach (e :: es) X.env = (false, eval e X.env) :: starEach es X.env := by rfl) (hpl : (backTo pos (starEach es X.env)).any (·.1) = false := by rfl) : EV X T E (.Call (.Name "isinstance" p) (e :: es) [] pos) (dAl qIsI fs) :=
  ev_bi call_isi ad_isi hg hm (by decide +kernel) ha (by decide) (by decide) hs hpl
theorem ev_srtI (hg : Gl X "sorted") (hm : X.mg "sorted" = none) (ha : EA X T E (e :: es) fs) (hs : starEach (e :: es) X.env = (false, eval e X.env) :: starEach es X.env := by rfl) (hpl : (backTo pos (starEach es X.env)).any (·.1) = false := by rfl) : EV X T E (.Call (.Name "sorted" p) (e :: es) [] pos) (dAl qSrtI fs) :=
  ev_bi cr_sortedI ad_srtI hg hm (by decide +kernel) ha (by decide) (by decide) hs hpl
theorem ev_srtIR (hg : Gl X "sorted") (hm : X.mg "sorted" = none) (ha : EA X T E (e :: es) fs) (hs : starEach (e :: es) X.env = (false, eval e X.env) :: starEach es X.env := by rfl) (hpl : (backTo pos (starEach es X.env)).any (·.1) = false := by rfl) : EV X T E (.Call (.Name "sorted" p) (e :: es) [] pos) (dAl qSrtIR fs) :=
  ev_bi cr_sortedI ad_srtIR hg hm (by decide +kernel) ha (by decide) (by decide) hs hpl
end
end DN
set_option Elab.async false
set_option linter.all false
set_option maxRecDepth 100000
set_option maxHeartbeats 2000000
/-! DnMeth: methods of lists; stores to items. -/
namespace DN
open PySem PySem.Spec PyProof.Rows L2

/-! ### readings -/
def dM (chk : PV → Store → Bool) (d : PV → List PV → M PV) (f : DE) (g : DA) : DE := fun σ st => (f σ st).bind fun x st => if chk x st then (g σ st).bind fun xs st => d x xs st else .fail
def dM0 (chk : PV → Store → Bool) (d : PV → List PV → M PV) (f : DE) : DE := fun σ st => (f σ st).bind fun x st => if chk x st then d x [] st else .fail
def isL (p : PV) (st : Store) : Bool := (asL p st).isSome
def isS (p : PV) (_ : Store) : Bool := match p with
  | .str _ => true
  | _ => false
/-- the list that a ref names -/
def refL (p : PV) (st : Store) : Option (Nat × List PV) := match p with
  | .ref n => (match st[n]? with
    | some (.lst l) => some (n, l)
    | _ => none)
  | _ => none
def mAppend (x : PV) (xs : List PV) : M PV := fun st => match refL x st, xs with
  | some (n, l), [y] => if l.length < SZ then .ok .non (st.set n (.lst (l ++ [y]))) else .fail
  | _, _ => .fail
def mExtend (x : PV) (xs : List PV) : M PV := fun st => match refL x st, xs with
  | some (n, l), [y] => (match asL y st with
    | some m => if l.length + m.length ≤ SZ then .ok .non (st.set n (.lst (l ++ m))) else .fail
    | none => .fail)
  | _, _ => .fail
def mPop0 (x : PV) (xs : List PV) : M PV := fun st => match refL x st, xs with
  | some (n, l), [] => (match l[l.length - 1]? with
    | some y => .ok y (st.set n (.lst l.dropLast))
    | none => .fail)
  | _, _ => .fail
def mPop1 (x : PV) (xs : List PV) : M PV := fun st => match refL x st, xs with
  | some (n, l), [.int i] => if -B63 ≤ i ∧ i < B63 then (match seqIndex? i l.length with
    | some k => (match l[k]? with
      | some y => .ok y (st.set n (.lst (l.eraseIdx k)))
      | none => .fail)
    | none => .fail) else .fail
  | _, _ => .fail
where B63 : Int := 9223372036854775808
def mInsert (x : PV) (xs : List PV) : M PV := fun st => match refL x st, xs with
  | some (n, l), [.int i, y] => if l.length < SZ ∧ 0 ≤ i ∧ i < 9223372036854775808 then .ok .non (st.set n (.lst (l.insertIdx (min i.toNat l.length) y))) else .fail
  | _, _ => .fail
/-- the first place of an equal item -/
def idxD (d : PyData) : List PyData → Option Nat
  | [] => none
  | z :: r => if PyData.eqv z d then some 0 else (idxD d r).map (· + 1)
def mIndex (x : PV) (xs : List PV) : M PV := fun st => match xs with
  | [y] => (match toD x st, toD y st with
    | some (.list ds), some d => if SeqAt.shaped (.list ds) = true ∧ SeqAt.shaped d = true then (match idxD d ds with
      | some j => .ok (.int (j : Nat)) st
      | none => .fail) else .fail
    | _, _ => .fail)
  | _ => .fail
def putA {κ α : Type} [DecidableEq κ] (es : List (κ × α)) (k : κ) (v : α) : List (κ × α) :=
  if (es.any fun e => decide (e.1 = k)) = true then es.map fun e => if e.1 = k then (e.1, v) else e else es ++ [(k, v)]
/-- a[i] = v -/
def pSet (o i v : PV) : M Unit := fun st => match o with
  | .ref n => (match st[n]? with
    | some (.dK es) => (match kOf i with
      | some k => if es.length < SZ then .ok () (st.set n (.dK (putA es k v))) else .fail
      | none => .fail)
    | some (.dT es) => (match i with
      | .tup l => if isW l = true then .fail else (match kOfs l with
        | some k => if es.length < SZ then .ok () (st.set n (.dT (putA es k v))) else .fail
        | none => .fail)
      | _ => .fail)
    | some (.lst l) => (match i with
      | .int k => (match ixN l.length k with
        | some j => .ok () (st.set n (.lst (l.set j v)))
        | none => .fail)
      | _ => .fail)
    | _ => .fail)
  | _ => .fail

section
variable {X : Cx} {T : TR} {E : XK} {G : DG} {ρ : List Addr} {H : Hp} {σ : St} {aσ : AE} {st : Store}
theorem refL_eq {x : PV} {n : Nat} {l : List PV} (h : refL x st = some (n, l)) : x = .ref n ∧ st[n]? = some (.lst l) := by
  unfold refL at h
  split at h
  · split at h
    · rename_i e
      cases h
      exact ⟨rfl, e⟩
    · cases h
  · cases h
theorem refL_rl {x : PV} {v : V} {n : Nat} {l : List PV} (hS : RlS G ρ H st) (r : Rl G ρ H x v) (h : refL x st = some (n, l)) : ∃ a xs, v = .ref a ∧ ρ[n]? = some a ∧ st[n]? = some (.lst l) ∧ H a = some (.lst xs) ∧ RlAll G ρ H l xs := by
  obtain ⟨rfl, e⟩ := refL_eq h
  cases r with
  | ref q =>
    cases hS.ref q e with
    | lst hh ra => exact ⟨_, _, rfl, q, e, hh, ra⟩
/-- the list at a is changed, what follows -/
theorem post_set {Q : VK} {n : Nat} {a : Addr} {l l' : List PV} {xs xs' : List V} {p : PV} {v : V} (h : Pst G E ρ H (KV G Q) (.ok p (st.set n (.lst l')))) (hS : RlS G ρ H st) (ha : ρ[n]? = some a) (hs : st[n]? = some (.lst l)) (hh : H a = some (.lst xs))
    (rl : RlAll G ρ H l' xs') (rp : Rl G ρ H p v) : Q v (upd H a (.lst xs')) := by
  have e : Ext G.T ρ H ρ (upd H a (.lst xs')) := ext_set hS (List.mem_of_getElem? ha) hh trivial
  exact h ρ _ e (hS.set ha hs hh trivial (.lst upd_same (rl.ext e))) v (rp.ext e)
def AdqM (G : DG) (E : XK) (r : V → List V → Hp → VK → Prop) (d : PV → List PV → M PV) : Prop := ∀ ρ H st x xs v vs Q, RlS G ρ H st → Rl G ρ H x v → RlAll G ρ H xs vs → Pst G E ρ H (KV G Q) (d x xs st) → r v vs H Q
theorem isL_ty {x : PV} {v : V} (hS : RlS G ρ H st) (r : Rl G ρ H x v) (h : isL x st = true) : tyV G.K "list" v H := by
  unfold isL at h
  obtain ⟨l, e⟩ := Option.isSome_iff_exists.mp h
  obtain ⟨a, xs, rfl, rd, ra⟩ := asL_rl hS r e
  exact .inl ⟨rfl, xs, .inl rd⟩
theorem isS_ty {x : PV} {v : V} (hS : RlS G ρ H st) (r : Rl G ρ H x v) (h : isS x st = true) : tyV G.K "str" v H := by
  cases x <;> cases r <;> first | rfl | cases h
variable {o e : Expr} {es : List Expr} {fo : DE} {fs : DA} {name : Str} {apos cpos : Pos} {Ty id : String} {r : V → List V → Hp → VK → Prop} {d : PV → List PV → M PV} {chk : PV → Store → Bool}
theorem ev_m (pa : PlainAttrs Ty) (slot : Slot Ty name id) (hty : typeOf (.builtin id) = pure (.type "method_descriptor")) (hm : MtR X id r) (hk : ∀ ρ H st x v, RlS (gOf X T) ρ H st → Rl (gOf X T) ρ H x v → chk x st = true → tyV X.K Ty v H) (ad : AdqM (gOf X T) E r d) (ho : EV X T E o fo) (ha : EA X T E (e :: es) fs)
    (hbase : attributeBase o name X.env (eval o X.env) = eval o X.env := by rfl)
    (hfew : ((backTo cpos (starEach (e :: es) X.env)).all (fun x => !x.1) && (backToKw cpos (keywordEach [] X.env)).all (fun x => x.1.isSome)
      && decide ((e :: es).length + ([] : List Keyword).length + (if ([] : List Keyword).isEmpty then 0 else 1) < 30)) = true := by rfl)
    (hline : (apos.endLine == cpos.line) = true := by rfl) (hs : starEach (e :: es) X.env = (false, eval e X.env) :: starEach es X.env := by rfl) (hplain : (backTo cpos (starEach es X.env)).any (·.1) = false := by rfl) :
    EV X T E (.Call (.Attribute o name apos) (e :: es) [] cpos) (dM chk d fo fs) := pe_imp (pe_bm pa slot hty hm ho ha hbase hfew hline hs hplain) fun σ H Q q => by
  obtain ⟨ρ, aσ, st, hE, hS, h⟩ := q
  refine tv_bind hE hS h fun ρ1 H1 x v st1 _ s1 e1 rx h => ?_
  split at h
  · rename_i hc
    exact ⟨hk _ _ _ _ _ s1 rx hc, ta_bind e1 s1 h fun ρ2 H2 xs vs st2 x2 s2 _ rs h => ad ρ2 H2 st2 x xs v vs Q s2 (rx.ext x2) rs h⟩
  · exact h.elim
theorem ev_m0 (pa : PlainAttrs Ty) (slot : Slot Ty name id) (hty : typeOf (.builtin id) = pure (.type "method_descriptor")) (hm : MtR X id r) (hk : ∀ ρ H st x v, RlS (gOf X T) ρ H st → Rl (gOf X T) ρ H x v → chk x st = true → tyV X.K Ty v H) (ad : AdqM (gOf X T) E r d) (ho : EV X T E o fo)
    (hbase : attributeBase o name X.env (eval o X.env) = eval o X.env := by rfl) (hline : (apos.endLine == cpos.line) = true := by rfl) :
    EV X T E (.Call (.Attribute o name apos) [] [] cpos) (dM0 chk d fo) := pe_imp (pe_bm0 pa slot hty hm ho hbase hline) fun σ H Q q => by
  obtain ⟨ρ, aσ, st, hE, hS, h⟩ := q
  refine tv_bind hE hS h fun ρ1 H1 x v st1 _ s1 e1 rx h => ?_
  split at h
  · rename_i hc
    exact ⟨hk _ _ _ _ _ s1 rx hc, ad ρ1 H1 st1 x [] v [] Q s1 rx .nil h⟩
  · exact h.elim
/-! ### append, extend, pop, insert, index -/
theorem ad_append : AdqM G E rAppend mAppend := fun ρ H st x xs v vs Q hS rx rs h => by
  unfold mAppend at h
  split at h
  · rename_i n l y e
    split at h
    · rename_i hz
      obtain ⟨a, zs, rfl, ha, hs, hh, ra⟩ := refL_rl hS rx e
      obtain ⟨w, rfl, ry⟩ := all1 rs
      exact ⟨a, zs, w, rfl, rfl, hh, by rw [SZ_eq, ← ra.length]; exact hz, post_set h hS ha hs hh (ra.append (.cons ry .nil)) .non⟩
    · exact h.elim
  · exact h.elim
/-- xs.extend(ys), ys a list that is read -/
def rExtR : V → List V → Hp → VK → Prop := fun x vs H Q => ∃ l b xs zs, x = .ref l ∧ vs = [.ref b] ∧ H l = some (.lst xs) ∧ Rd H b (.lst zs) ∧ xs.length + zs.length ≤ sizeLine ∧ Q .non (upd H l (.lst (xs ++ zs)))
theorem mt_extR : MtM X "list.extend" rExtR := by
  intro pins s σ H x vs v us Q I rx rv h
  obtain ⟨l, b, xs, zs, rfl, rfl, hH, hB, hz, q⟩ := h
  obtain ⟨u, rfl, ru⟩ := rv.one
  cases rx
  cases ru
  obtain ⟨z, its, n, r, hl, e⟩ := I.lstM hH
  obtain ⟨z2, its2, n2, r2, hl2, e2⟩ := inv_lst I hB
  have hsz : its.toArray.size + its2.toArray.size ≤ sizeLine := by simp only [List.size_toArray]; omega
  have hlong : ¬ (!its.toArray.isEmpty && Builtin.List.listTooLong (its.toArray.size + its2.toArray.size)) = true := by
    rw [notLongL hsz]
    simp
  refine call_meets F.slot_list_extend ⟨_, e, rfl⟩ F.entry_list_extend (F.args_list_extend_2 _ _)
    (AutoSeq1.list_extend_list_list_0 l its.toArray n b its2.toArray n2 hlong (by simp only [List.size_toArray]; omega) (by omega)) ⟨e, e2, ?_⟩
  exact ⟨.non, _, I.lset (its' := its ++ its2) hH e (by simp) (r.append r2) (by rw [List.length_append]; omega), rfl, q⟩
theorem ad_extend : AdqM G E rExtR mExtend := fun ρ H st x xs v vs Q hS rx rs h => by
  unfold mExtend at h
  split at h
  · rename_i n l y e
    split at h
    · rename_i m e2
      split at h
      · rename_i hz
        obtain ⟨a, zs, rfl, ha, hs, hh, ra⟩ := refL_rl hS rx e
        obtain ⟨w, rfl, ry⟩ := all1 rs
        obtain ⟨b, ys, rfl, rd, rb⟩ := asL_rl hS ry e2
        exact ⟨a, b, zs, ys, rfl, rfl, hh, rd, by rw [SZ_eq, ← ra.length, ← rb.length]; exact hz, post_set h hS ha hs hh (ra.append rb) .non⟩
      · exact h.elim
    · exact h.elim
  · exact h.elim
theorem RlAll.dropLast {l : List PV} {xs : List V} (r : RlAll G ρ H l xs) : RlAll G ρ H l.dropLast xs.dropLast := by
  rw [List.dropLast_eq_take, List.dropLast_eq_take, r.length]
  exact r.take _
theorem ad_pop0 : AdqM G E rPop mPop0 := fun ρ H st x xs v vs Q hS rx rs h => by
  unfold mPop0 at h
  split at h
  · rename_i n l e
    split at h
    · rename_i y e2
      obtain ⟨a, zs, rfl, ha, hs, hh, ra⟩ := refL_rl hS rx e
      cases rs
      obtain ⟨w, e3, rw3⟩ := ra.get e2
      rw [ra.length] at e3
      exact ⟨a, zs, w, rfl, rfl, hh, e3, post_set h hS ha hs hh ra.dropLast rw3⟩
    · exact h.elim
  · exact h.elim
theorem ad_pop1 : AdqM G E rPopAt mPop1 := fun ρ H st x xs v vs Q hS rx rs h => by
  unfold mPop1 at h
  split at h
  · rename_i n l i e
    split at h
    · rename_i hz
      split at h
      · rename_i k ek
        split at h
        · rename_i y e2
          obtain ⟨a, zs, rfl, ha, hs, hh, ra⟩ := refL_rl hS rx e
          obtain ⟨w, rfl, ry⟩ := all1 rs
          cases ry
          obtain ⟨w, e3, rw3⟩ := ra.get e2
          exact ⟨a, zs, i, k, w, rfl, rfl, hh, hz.1, hz.2, by rw [← ra.length]; exact ek, e3, post_set h hS ha hs hh (ra.eraseIdx k) rw3⟩
        · exact h.elim
      · exact h.elim
    · exact h.elim
  · exact h.elim
theorem idxD_some {d : PyData} : ∀ {ds : List PyData} {j : Nat}, idxD d ds = some j → ∃ z, ds[j]? = some z ∧ PyData.eqv z d = true ∧ ∀ (m : Nat) (z' : PyData), m < j → ds[m]? = some z' → PyData.eqv z' d = false
  | [], _, h => by simp [idxD] at h
  | z :: r, j, h => by
    unfold idxD at h
    split at h
    · rename_i hz
      cases h
      exact ⟨z, rfl, hz, fun m _ hm => absurd hm (Nat.not_lt_zero _)⟩
    · rename_i hz
      obtain ⟨k, e, rfl⟩ := Option.map_eq_some_iff.mp h
      obtain ⟨w, h1, h2, h3⟩ := idxD_some e
      refine ⟨w, h1, h2, fun m z' hm hz' => ?_⟩
      cases m with
      | zero => simp at hz'; subst hz'; simpa using hz
      | succ m => exact h3 m z' (by omega) (by simpa using hz')
theorem ad_index : AdqM G E (rIndexD G.K) mIndex := fun ρ H st x xs v vs Q hS rx rs h => by
  unfold mIndex at h
  split at h
  · rename_i y
    split at h
    · rename_i ds d e1 e2
      split at h
      · rename_i hs
        split at h
        · rename_i j e3
          obtain ⟨w, rfl, ry⟩ := all1 rs
          obtain ⟨z, h1, h2, h3⟩ := idxD_some e3
          have q := toD_dp hS e1 rx
          cases q with
          | lst q1 q2 => exact ⟨_, w, d, ds, j, z, rfl, rfl, .lst q1 q2, toD_dp hS e2 ry, hs.1, hs.2, h1, h2, h3, post_val h hS (.int _)⟩
        · exact h.elim
      · exact h.elim
    · exact h.elim
  · exact h.elim
theorem ev_append (ho : EV X T E o fo) (ha : EV X T E e (f : DE)) (hbase : attributeBase o "append" X.env (eval o X.env) = eval o X.env := by rfl)
    (hfew : ((backTo cpos (starEach [e] X.env)).all (fun x => !x.1) && (backToKw cpos (keywordEach [] X.env)).all (fun x => x.1.isSome)
      && decide ([e].length + ([] : List Keyword).length + (if ([] : List Keyword).isEmpty then 0 else 1) < 30)) = true := by rfl) (hline : (apos.endLine == cpos.line) = true := by rfl) (hs : starEach [e] X.env = (false, eval e X.env) :: starEach [] X.env := by rfl) (hplain : (backTo cpos (starEach [] X.env)).any (·.1) = false := by rfl) :
    EV X T E (.Call (.Attribute o "append" apos) [e] [] cpos) (dM isL mAppend fo (dAc f dA0)) :=
  ev_m PySem.F.plainAttrs_list PySem.F.slot_list_append PySem.F.type_list_append mt_append (fun _ _ _ _ _ => isL_ty) ad_append ho (ea_cons ha ea_nil hs) hbase hfew hline hs hplain
theorem ev_extend (ho : EV X T E o fo) (ha : EV X T E e (f : DE)) (hbase : attributeBase o "extend" X.env (eval o X.env) = eval o X.env := by rfl)
    (hfew : ((backTo cpos (starEach [e] X.env)).all (fun x => !x.1) && (backToKw cpos (keywordEach [] X.env)).all (fun x => x.1.isSome)
      && decide ([e].length + ([] : List Keyword).length + (if ([] : List Keyword).isEmpty then 0 else 1) < 30)) = true := by rfl) (hline : (apos.endLine == cpos.line) = true := by rfl) (hs : starEach [e] X.env = (false, eval e X.env) :: starEach [] X.env := by rfl) (hplain : (backTo cpos (starEach [] X.env)).any (·.1) = false := by rfl) :
    EV X T E (.Call (.Attribute o "extend" apos) [e] [] cpos) (dM isL mExtend fo (dAc f dA0)) :=
  ev_m PySem.F.plainAttrs_list PySem.F.slot_list_extend PySem.F.type_list_extend mt_extR (fun _ _ _ _ _ => isL_ty) ad_extend ho (ea_cons ha ea_nil hs) hbase hfew hline hs hplain
theorem ev_pop1 (ho : EV X T E o fo) (ha : EV X T E e (f : DE)) (hbase : attributeBase o "pop" X.env (eval o X.env) = eval o X.env := by rfl)
    (hfew : ((backTo cpos (starEach [e] X.env)).all (fun x => !x.1) && (backToKw cpos (keywordEach [] X.env)).all (fun x => x.1.isSome)
      && decide ([e].length + ([] : List Keyword).length + (if ([] : List Keyword).isEmpty then 0 else 1) < 30)) = true := by rfl) (hline : (apos.endLine == cpos.line) = true := by rfl) (hs : starEach [e] X.env = (false, eval e X.env) :: starEach [] X.env := by rfl) (hplain : (backTo cpos (starEach [] X.env)).any (·.1) = false := by rfl) :
    EV X T E (.Call (.Attribute o "pop" apos) [e] [] cpos) (dM isL mPop1 fo (dAc f dA0)) :=
  ev_m PySem.F.plainAttrs_list PySem.F.slot_list_pop PySem.F.type_list_pop mt_popAt (fun _ _ _ _ _ => isL_ty) ad_pop1 ho (ea_cons ha ea_nil hs) hbase hfew hline hs hplain
theorem ev_pop0 (ho : EV X T E o fo) (hbase : attributeBase o "pop" X.env (eval o X.env) = eval o X.env := by rfl) (hline : (apos.endLine == cpos.line) = true := by rfl) :
    EV X T E (.Call (.Attribute o "pop" apos) [] [] cpos) (dM0 isL mPop0 fo) :=
  ev_m0 PySem.F.plainAttrs_list PySem.F.slot_list_pop PySem.F.type_list_pop mt_pop (fun _ _ _ _ _ => isL_ty) ad_pop0 ho hbase hline
theorem ev_index (hu : X.A.units + 65 < cLine) (ho : EV X T E o fo) (ha : EV X T E e (f : DE)) (hbase : attributeBase o "index" X.env (eval o X.env) = eval o X.env := by rfl)
    (hfew : ((backTo cpos (starEach [e] X.env)).all (fun x => !x.1) && (backToKw cpos (keywordEach [] X.env)).all (fun x => x.1.isSome)
      && decide ([e].length + ([] : List Keyword).length + (if ([] : List Keyword).isEmpty then 0 else 1) < 30)) = true := by rfl) (hline : (apos.endLine == cpos.line) = true := by rfl) (hs : starEach [e] X.env = (false, eval e X.env) :: starEach [] X.env := by rfl) (hplain : (backTo cpos (starEach [] X.env)).any (·.1) = false := by rfl) :
    EV X T E (.Call (.Attribute o "index" apos) [e] [] cpos) (dM isL mIndex fo (dAc f dA0)) :=
  ev_m PySem.F.plainAttrs_list PySem.F.slot_list_index PySem.F.type_list_index (mt_indexD hu) (fun _ _ _ _ _ => isL_ty) ad_index ho (ea_cons ha ea_nil hs) hbase hfew hline hs hplain
end
end DN
set_option Elab.async false
set_option linter.all false
set_option maxRecDepth 100000
set_option maxHeartbeats 2000000
/-! DnStmt: statements, loops. -/
namespace DN
open PySem PySem.Spec PyProof.Rows L2

/-! ### readings -/
abbrev DT := PV → AE → M AE
abbrev DTs := List PV → AE → M AE
def tName (i : Nat) : DT := fun p σ st => .ok (σ.set i (some p)) st
def tNil : DTs := fun ps σ st => match ps with
  | [] => .ok σ st
  | _ => .fail
def tCons (t : DT) (ts : DTs) : DTs := fun ps σ st => match ps with
  | p :: r => (t p σ st).bind fun σ st => ts r σ st
  | [] => .fail
def tTupP (n : Nat) (ts : DTs) : DT := fun p σ st => match p with
  | .tup l => if l.length = n then ts l σ st else .fail
  | _ => .fail
def tSub (fo fi : DE) : DT := fun p σ st => (fo σ st).bind fun o st => (fi σ st).bind fun i st => (pSet o i p st).bind fun _ st => .ok σ st
def sNext : DS := fun σ st => .ok (.nx, σ) st
def sBreak : DS := fun σ st => .ok (.bk, σ) st
def sCont : DS := fun σ st => .ok (.ct, σ) st
def sSeq (a b : DS) : DS := fun σ st => (a σ st).bind fun r st => match r with
  | (.nx, σ) => b σ st
  | r => .ok r st
def sExpr (f : DE) : DS := fun σ st => (f σ st).bind fun _ st => .ok (.nx, σ) st
def sRet (f : DE) : DS := fun σ st => (f σ st).bind fun v st => .ok (.rt v, σ) st
def sRetN : DS := fun σ st => .ok (.rt .non, σ) st
def sIf (c : DB) (a b : DS) : DS := fun σ st => (c σ st).bind fun k st => if k then a σ st else b σ st
def sAsg (f : DE) (t : DT) : DS := fun σ st => (f σ st).bind fun p st => (t p σ st).bind fun σ st => .ok (.nx, σ) st
def sPar (i j : Nat) (f : DA) : DS := fun σ st => (f σ st).bind fun ps st => match ps with
  | [p, q] => .ok (.nx, (σ.set i (some p)).set j (some q)) st
  | _ => .fail
def sPar3 (i j k : Nat) (f : DA) : DS := fun σ st => (f σ st).bind fun ps st => match ps with
  | [p, q, r] => .ok (.nx, ((σ.set i (some p)).set j (some q)).set k (some r)) st
  | _ => .fail
/-- what is stored at these slots is forgotten -/
def wipeA (σ : AE) : List Nat → AE
  | [] => σ
  | i :: r => wipeA (σ.set i none) r
/-- turns over these items; w: what is forgotten behind a turn -/
def forL (t : DT) (b : DS) (w : List Nat) (okS : Store → Bool) : List PV → DS
  | [], σ, st => if okS st then .ok (.nx, wipeA σ w) st else .fail
  | p :: r, σ, st => if okS st then (t p σ st).bind fun σ st => (b σ st).bind fun r' st => match r' with
    | (.nx, σ) => forL t b w okS r (wipeA σ w) st
    | (.ct, σ) => forL t b w okS r (wipeA σ w) st
    | (.bk, σ) => .ok (.nx, wipeA σ w) st
    | (.rt v, σ) => .ok (.rt v, σ) st
    else .fail
abbrev Src := List PV × (Store → Bool)
abbrev DI := AE → M Src
def sFor (s : DI) (t : DT) (b : DS) (w : List Nat) : DS := fun σ st => (s σ st).bind fun r st => forL t b w r.2 r.1 σ st
def whileN (c : DB) (b : DS) (w : List Nat) : Nat → DS
  | 0, _, _ => .fail
  | n + 1, σ, st => (c σ st).bind fun k st => if k then (b σ st).bind fun r' st => match r' with
    | (.nx, σ) => whileN c b w n (wipeA σ w) st
    | (.ct, σ) => whileN c b w n (wipeA σ w) st
    | (.bk, σ) => .ok (.nx, wipeA σ w) st
    | (.rt v, σ) => .ok (.rt v, σ) st
    else .ok (.nx, σ) st
open Classical in
noncomputable def sWhile (c : DB) (b : DS) (w : List Nat) : DS := fun σ st => if h : ∃ n, whileN c b w n σ st ≠ .fail then whileN c b w (Classical.choose h) σ st else .fail

/-! sources -/
open Classical in
noncomputable def srcOf (p : PV) : M Src := fun st => match p with
  | .tup l => .ok (l, fun _ => true) st
  | .lst l => .ok (l, fun _ => true) st
  | .ref n => (match st[n]? with
    | some (.lst l) => .ok (l, fun st => decide (st[n]? = some (.lst l))) st
    | _ => .fail)
  | .str z => .ok (z.cps.toList.map fun c => .str ⟨#[c]⟩, fun _ => true) st
  | _ => .fail
noncomputable def iSeq (f : DE) : DI := fun σ st => (f σ st).bind fun p st => srcOf p st
/-- a < 2 ^ 62 .. -/
def rgOk (i : Int) : Bool := decide (-4611686018427387904 ≤ i ∧ i < 4611686018427387904)
def iRg1 (f : DE) : DI := fun σ st => (f σ st).bind fun p st => match p with
  | .int n => if rgOk n then .ok (rgP 0 n, fun _ => true) st else .fail
  | _ => .fail
def iRg2 (f g : DE) : DI := fun σ st => (f σ st).bind fun p st => (g σ st).bind fun q st => match p, q with
  | .int a, .int b => if rgOk a && rgOk b then .ok (rgP a b, fun _ => true) st else .fail
  | _, _ => .fail
def numbered : Nat → List PV → List PV
  | _, [] => []
  | i, p :: r => .tup [.int i, p] :: numbered (i + 1) r

section
variable {X : Cx} {T : TR} {E : XK} {G : DG} {ρ : List Addr} {H : Hp} {σ : St} {aσ : AE} {st : Store}
variable {a b c e : Expr} {fa fb fc f : DE} {pos : Pos}
theorem RlE.set {i : Nat} {p : PV} {v : V} (hE : RlE G ρ H aσ σ) (r : Rl G ρ H p v) : RlE G ρ H (aσ.set i (some p)) (σ.set i (some v)) := by
  refine ⟨by simp [hE.len], fun j q h => ?_⟩
  by_cases e : i = j
  · subst e
    have hi : i < (aσ.set i (some p)).length := (List.getElem?_eq_some_iff.mp h).1
    rw [List.length_set] at hi
    rw [List.getElem?_set_self hi] at h
    cases h
    exact ⟨v, by rw [List.getElem?_set_self (by rw [← hE.len]; exact hi)], r⟩
  · rw [List.getElem?_set_ne e] at h
    obtain ⟨u, h1, h2⟩ := hE.at_ j q h
    exact ⟨u, by rw [List.getElem?_set_ne e]; exact h1, h2⟩
theorem RlE.wipe (w : List Nat) : ∀ {aσ : AE}, RlE G ρ H aσ σ → RlE G ρ H (wipeA aσ w) σ := by
  induction w with
  | nil => exact fun h => h
  | cons i r ih =>
    intro aσ h
    refine ih ⟨by simp [h.len], fun j p hp => ?_⟩
    by_cases e : i = j
    · subst e
      have hi : i < (aσ.set i none).length := (List.getElem?_eq_some_iff.mp hp).1
      rw [List.length_set] at hi
      rw [List.getElem?_set_self hi] at hp
      cases hp
    · rw [List.getElem?_set_ne e] at hp
      exact h.at_ j p hp

/-! ### targets -/
def Tg (G : DG) (E : XK) (f : DT) : TG := fun v σ H Q => ∃ ρ aσ st p, RlE G ρ H aσ σ ∧ RlS G ρ H st ∧ Rl G ρ H p v ∧ Pst G E ρ H (fun aσ' _ ρ' H' => ∀ σ', RlE G ρ' H' aσ' σ' → Q σ' H') (f p aσ st)
def Tgs (G : DG) (E : XK) (f : DTs) : TGs := fun vs σ H Q => ∃ ρ aσ st ps, RlE G ρ H aσ σ ∧ RlS G ρ H st ∧ RlAll G ρ H ps vs ∧ Pst G E ρ H (fun aσ' _ ρ' H' => ∀ σ', RlE G ρ' H' aσ' σ' → Q σ' H') (f ps aσ st)
def EG (X : Cx) (T : TR) (E : XK) (tg : Expr) (f : DT) : Prop := PG X tg (Tg (gOf X T) E f)
def EGs (X : Cx) (T : TR) (E : XK) (tg : List Expr) (f : DTs) : Prop := PGs X tg (Tgs (gOf X T) E f)
theorem pg_imp {tg : Expr} {t t' : TG} (h : PG X tg t) (i : ∀ v σ H Q, t' v σ H Q → t v σ H Q) : PG X tg t' := ⟨fun pins s σ H v u Q I r q => h.run pins s σ H v u Q I r (i v σ H Q q)⟩
theorem pgs_imp {tg : List Expr} {t t' : TGs} (h : PGs X tg t) (i : ∀ v σ H Q, t' v σ H Q → t v σ H Q) : PGs X tg t' := ⟨fun pins s σ H v u Q I r q => h.run pins s σ H v u Q I r (i v σ H Q q)⟩
theorem eg_name (i : Nat) {x : Str} (hN : X.N.Nodup) (hi : X.N[i]? = some x := by rfl) (hx : Loc X.env.scope x := by first | exact Or.inl rfl | exact Or.inr rfl) (hf : X.fn x = true ∨ X.env.scope.names.lookup x = some .local := by first | exact .inl rfl | exact .inr rfl) : EG X T E (.Name x pos) (tName i) := pg_imp (pg_name hN hi hx hf) fun v σ H Q q => by
  obtain ⟨ρ, aσ, st, p, hE, hS, r, h⟩ := q
  exact h.ret hS _ (hE.set r)
theorem egs_nil : EGs X T E [] tNil := pgs_imp pgs_nil fun vs σ H Q q => by
  obtain ⟨ρ, aσ, st, ps, hE, hS, r, h⟩ := q
  unfold tNil at h
  split at h
  · cases r; exact ⟨rfl, h.ret hS _ hE⟩
  · exact h.elim
theorem tg_bind {β : Type} {t : DT} {p : PV} {v : V} {k : AE → Store → Res β} {K : β → Store → List Addr → Hp → Prop} {W : St → Hp → Prop} (hE : RlE G ρ H aσ σ) (hS : RlS G ρ H st) (r : Rl G ρ H p v) (h : Pst G E ρ H K ((t p aσ st).bind k))
    (q : ∀ ρ1 H1 aσ1 σ1 st1, Ext G.T ρ H ρ1 H1 → RlS G ρ1 H1 st1 → RlE G ρ1 H1 aσ1 σ1 → Pst G E ρ1 H1 K (k aσ1 st1) → W σ1 H1) : Tg G E t v σ H W :=
  ⟨ρ, aσ, st, p, hE, hS, r, h.bind.imp fun a st1 ρ1 H1 _ _ z σ' e => q ρ1 H1 a σ' st1 z.1 z.2.1 e z.2.2⟩
theorem egs_cons {tg : Expr} {tgs : List Expr} {t : DT} {ts : DTs} (h1 : EG X T E tg t) (h2 : EGs X T E tgs ts) (hs : (assignEach (tg :: tgs) X.env).map (·.2) = assign tg X.env :: (assignEach tgs X.env).map (·.2) := by rfl) : EGs X T E (tg :: tgs) (tCons t ts) :=
  pgs_imp (pgs_cons h1 h2 hs) fun vs σ H Q q => by
  obtain ⟨ρ, aσ, st, ps, hE, hS, r, h⟩ := q
  cases r with
  | nil => exact h.elim
  | cons r rs =>
    exact ⟨_, _, rfl, tg_bind hE hS r h fun ρ1 H1 aσ1 σ1 st1 x1 s1 e1 h => ⟨ρ1, aσ1, st1, _, e1, s1, rs.ext x1, h⟩⟩
theorem eg_tup {tgs : List Expr} {ts : DTs} {k : Nat} {n : Nat} (hc : X.calm = true) (h : EGs X T E tgs ts) (hn : (assignEach tgs X.env).length = n := by rfl) (hst : (assignEach tgs X.env).findIdx? (·.1) = none := by rfl) : EG X T E (.Tuple tgs k pos) (tTupP n ts) :=
  pg_imp (pg_tup hc h hn hst) fun v σ H Q q => by
  obtain ⟨ρ, aσ, st, p, hE, hS, r, h⟩ := q
  unfold tTupP at h
  split at h
  · split at h
    · rename_i l hl
      cases r with
      | tup q ra => exact ⟨_, _, rfl, q.sq, by rw [← ra.length]; exact hl, ρ, aσ, st, l, hE, hS, ra, h⟩
    · exact h.elim
  · exact h.elim
/-- a store to an item, by values -/
def rSetA : V → V → V → Hp → (Hp → Prop) → Prop := fun o i v H Q => rSetL o i v H Q ∨ ∃ a H', o = .ref a ∧ DPut H a i v H' ∧ Q H'
theorem set_all (hu : X.A.units + 65 < cLine) : PSet X rSetA := by
  intro pins s σ H o i v ov iv u Q I ro ri rv h
  rcases h with h | ⟨a, H', rfl, g, q⟩
  · exact set_list pins s σ H o i v ov iv u Q I ro ri rv h
  · cases ro
    exact d_setItem (by omega) I g ri rv fun s' I' => ⟨H', I', q⟩
theorem any_keys {κ α β : Type} [DecidableEq κ] (k : κ) : ∀ (es : List (κ × α)) (kvs : List (κ × β)), es.map (·.1) = kvs.map (·.1) → (es.any fun e => decide (e.1 = k)) = kvs.any fun e => decide (e.1 = k)
  | [], [], _ => rfl
  | [], _ :: _, h => by cases h
  | _ :: _, [], h => by cases h
  | (a, x) :: es, (b, y) :: kvs, h => by
    simp only [List.map_cons, List.cons.injEq] at h
    obtain ⟨rfl, h⟩ := h
    simp only [List.any_cons, any_keys k es kvs h]
theorem put_rl {κ : Type} [DecidableEq κ] (k : κ) {p : PV} {v : V} (r : Rl G ρ H p v) {es : List (κ × PV)} {kvs : List (κ × V)} (hk : es.map (·.1) = kvs.map (·.1)) (ra : RlAll G ρ H (es.map (·.2)) (kvs.map (·.2))) :
    (putA es k p).map (·.1) = (putK kvs k v).map (·.1) ∧ RlAll G ρ H ((putA es k p).map (·.2)) ((putK kvs k v).map (·.2)) := by
  unfold putA putK
  rw [any_keys k es kvs hk]
  split
  · rename_i hany
    clear hany
    induction es generalizing kvs with
    | nil =>
      cases kvs with
      | nil => exact ⟨rfl, .nil⟩
      | cons _ _ => cases hk
    | cons e es ih =>
      cases kvs with
      | nil => cases hk
      | cons f kvs =>
        obtain ⟨a, x⟩ := e
        obtain ⟨b, y⟩ := f
        simp only [List.map_cons, List.cons.injEq] at hk
        obtain ⟨rfl, hk⟩ := hk
        simp only [List.map_cons] at ra
        cases ra with
        | cons r1 r2 =>
          obtain ⟨h1, h2⟩ := ih hk r2
          simp only [List.map_cons]
          refine ⟨?_, ?_⟩
          · rw [h1]
            split <;> rfl
          · split
            · exact .cons r h2
            · exact .cons r1 h2
  · simp only [List.map_append, List.map_cons, List.map_nil]
    exact ⟨by rw [hk], ra.append (.cons r .nil)⟩
theorem set_rl {o i p : PV} {ov iv v : V} {W : Hp → Prop} (hS : RlS G ρ H st) (ro : Rl G ρ H o ov) (ri : Rl G ρ H i iv) (rp : Rl G ρ H p v)
    (h : Pst G E ρ H (fun _ st' ρ' H' => Ext G.T ρ H ρ' H' → W H') (pSet o i p st)) : rSetA ov iv v H W := by
  unfold pSet at h
  split at h
  · rename_i n
    split at h
    · rename_i es e
      split at h
      · rename_i k ek
        split at h
        · rename_i hz
          cases ro with
          | @ref _ a q =>
            cases hS.ref q e with
            | @dK _ _ kvs hh hk ra =>
              have z := congrArg List.length hk
              simp only [List.length_map] at z
              have x : Ext G.T ρ H ρ (upd H a (.dK (putK kvs k v))) := ext_set hS (List.mem_of_getElem? q) hh trivial
              obtain ⟨h1, h2⟩ := put_rl k rp hk ra
              refine .inr ⟨_, _, rfl, .inl ⟨kvs, k, hh, kOf_v ek ri, by rw [SZ_eq, ← z]; exact hz, rfl⟩, h ρ _ x (hS.set q e hh trivial (.dK upd_same h1 (h2.ext x))) x⟩
        · exact h.elim
      · exact h.elim
    · rename_i es e
      split at h
      · split at h
        · exact h.elim
        · rename_i hw
          split at h
          · rename_i k ek
            split at h
            · rename_i hz
              cases ro with
              | @ref _ a q =>
                cases hS.ref q e with
                | @dT _ _ kvs hh hk ra =>
                  have z := congrArg List.length hk
                  simp only [List.length_map] at z
                  obtain ⟨b, rfl, hb⟩ := tv_key (by simpa using hw) ek ri
                  have x : Ext G.T ρ H ρ (upd H a (.dT (putK kvs k v))) := ext_set hS (List.mem_of_getElem? q) hh trivial
                  obtain ⟨h1, h2⟩ := put_rl k rp hk ra
                  refine .inr ⟨_, _, rfl, .inr ⟨kvs, k, b, hh, rfl, hb, by rw [SZ_eq, ← z]; exact hz, rfl⟩, h ρ _ x (hS.set q e hh trivial (.dT upd_same h1 (h2.ext x))) x⟩
            · exact h.elim
          · exact h.elim
      · exact h.elim
    · rename_i l e
      split at h
      · rename_i k
        cases ri
        split at h
        · rename_i j ej
          cases ro with
          | @ref _ a q =>
            cases hS.ref q e with
            | @lst _ _ xs hh ra =>
              have x : Ext G.T ρ H ρ (upd H a (.lst (xs.set j v))) := ext_set hS (List.mem_of_getElem? q) hh trivial
              refine .inl ⟨_, xs, k, j, rfl, rfl, hh, by rw [← ra.length]; exact ej, h ρ _ x (hS.set q e hh trivial (.lst upd_same ((ra.set rp j).ext x))) x⟩
        · exact h.elim
      · exact h.elim
    · exact h.elim
  · exact h.elim
theorem eg_sub {o i : Expr} {fo fi : DE} (hu : X.A.units + 65 < cLine) (ho : EV X T E o fo) (hi : EV X T E i fi)
    (ha : ∀ v, assign (.Subscript o i pos) X.env v = (holding [v] (eval o X.env) >>= fun ov => holding [v, ov] (eval i X.env) >>= fun iv => standAt pos >>= fun _ => holding [v, ov, iv] (setItem ov iv v) >>= fun _ => release [v, ov, iv] []) := by intro _; rfl) :
    EG X T E (.Subscript o i pos) (tSub fo fi) := pg_imp (pg_sub ho hi (set_all hu) ha) fun v σ H Q q => by
  obtain ⟨ρ, aσ, st, p, hE, hS, r, h⟩ := q
  refine tv_bind hE hS h fun ρ1 H1 x ov st1 x1 s1 e1 rx h => tv_bind e1 s1 h fun ρ2 H2 y iv st2 x2 s2 e2 ry h => ?_
  refine set_rl s2 (rx.ext x2) ry ((r.ext x1).ext x2) (h.bind.imp fun _ st3 ρ3 H3 _ _ z x3 => ?_)
  exact z.2.2.ret z.2.1 _ (e2.ext x3)

/-! ### statements -/
variable {s : Stmt} {ss : List Stmt} {g h : DS} {cb : DB}
theorem es_pass : ES X T E (.Pass pos) sNext := ps_imp ps_pass fun D σ H q => by
  obtain ⟨ρ, aσ, st, hE, hS, h⟩ := q
  exact h.ret hS _ hE
theorem es_break : ES X T E (.Break pos) sBreak := ps_imp ps_break fun D σ H q => by
  obtain ⟨ρ, aσ, st, hE, hS, h⟩ := q
  exact h.ret hS _ hE
theorem es_cont : ES X T E (.Continue pos) sCont := ps_imp ps_continue fun D σ H q => by
  obtain ⟨ρ, aσ, st, hE, hS, h⟩ := q
  exact h.ret hS _ hE
theorem es_doc {x j pos'} : ES X T E (.Expr (.Constant (.str x) j pos) pos') sNext := ps_imp ps_doc fun D σ H q => by
  obtain ⟨ρ, aσ, st, hE, hS, h⟩ := q
  exact h.ret hS _ hE
theorem ess_nil : ESs X T E [] sNext := pss_imp pss_nil fun D σ H q => by
  obtain ⟨ρ, aσ, st, hE, hS, h⟩ := q
  exact h.ret hS _ hE
theorem ts_seq {D : Ends} (q : Ts G E (sSeq g h) D σ H) : Ts G E g { D with nx := Ts G E h D } σ H := by
  obtain ⟨ρ, aσ, st, hE, hS, h⟩ := q
  refine ⟨ρ, aσ, st, hE, hS, h.bind.imp fun r st1 ρ1 H1 _ _ z σ1 e1 => ?_⟩
  obtain ⟨x1, s1, z⟩ := z
  obtain ⟨fl, aσ1⟩ := r
  cases fl with
  | nx => exact ⟨ρ1, aσ1, st1, e1, s1, z⟩
  | bk => exact z.ret s1 σ1 e1
  | ct => exact z.ret s1 σ1 e1
  | rt v => exact z.ret s1 σ1 e1
theorem ess_cons (h1 : ES X T E s g) (h2 : ESs X T E ss h) : ESs X T E (s :: ss) (sSeq g h) := pss_imp (pss_cons h1 h2) fun D σ H q => ts_seq q
theorem ess_one (h1 : ES X T E s g) : ESs X T E [s] g := pss_one h1
theorem es_expr (ha : EV X T E a fa) (hs : swapsWith a none pos.line X.env = pure false := by rfl) : ES X T E (.Expr a pos) (sExpr fa) := ps_imp (ps_expr ha hs) fun D σ H q => by
  obtain ⟨ρ, aσ, st, hE, hS, h⟩ := q
  exact tv_bind hE hS h fun ρ1 H1 x v st1 x1 s1 e1 rx h => h.ret s1 _ e1
theorem es_ret (ha : EV X T E a fa) : ES X T E (.Return (some a) pos) (sRet fa) := ps_imp (ps_ret ha) fun D σ H q => by
  obtain ⟨ρ, aσ, st, hE, hS, h⟩ := q
  exact tv_bind hE hS h fun ρ1 H1 x v st1 x1 s1 e1 rx h => h.ret s1 _ e1 v rx
theorem es_retN : ES X T E (.Return none pos) sRetN := ps_imp ps_retN fun D σ H q => by
  obtain ⟨ρ, aσ, st, hE, hS, h⟩ := q
  exact h.ret hS _ hE .non .non
theorem es_if {sa sb : List Stmt} (hc : EB X T E c cb) (ha : ESs X T E sa g) (hb : ESs X T E sb h) : ES X T E (.If c sa sb pos) (sIf cb g h) := ps_imp (ps_if hc ha hb) fun D σ H q => by
  obtain ⟨ρ, aσ, st, hE, hS, h⟩ := q
  refine tb_bind hE hS h fun ρ1 H1 b st1 _ s1 e1 h => ?_
  cases b with
  | true => exact ite_tt ⟨ρ1, aσ, st1, e1, s1, h⟩
  | false => exact ite_ff ⟨ρ1, aσ, st1, e1, s1, h⟩
theorem es_asg {tg : Expr} {t : DT} (ha : EV X T E a fa) (hg : EG X T E tg t) (hs : swapsWithSole [tg] a pos.line X.env = pure false := by rfl) (hw : swappedStores [tg] a X.env = pure none := by rfl)
    (h1 : (assignEach [tg] X.env).map (·.2) = [assign tg X.env] := by rfl) : ES X T E (.Assign [tg] a pos) (sAsg fa t) := ps_imp (ps_asg ha hg hs hw h1) fun D σ H q => by
  obtain ⟨ρ, aσ, st, hE, hS, h⟩ := q
  exact tv_bind hE hS h fun ρ1 H1 x v st1 x1 s1 e1 rx h => tg_bind e1 s1 rx h fun ρ2 H2 aσ2 σ2 st2 x2 s2 e2 h => h.ret s2 _ e2
/-- x = e -/
theorem es_set (i : Nat) {x : Str} {pos' : Pos} (hN : X.N.Nodup) (ha : EV X T E a fa) (hi : X.N[i]? = some x := by rfl) (hx : Loc X.env.scope x := by first | exact Or.inl rfl | exact Or.inr rfl) (hf : X.fn x = true ∨ X.env.scope.names.lookup x = some .local := by first | exact .inl rfl | exact .inr rfl)
    (hs : swapsWithSole [.Name x pos'] a pos.line X.env = pure false := by rfl) (hw : swappedStores [.Name x pos'] a X.env = pure none := by rfl) : ES X T E (.Assign [.Name x pos'] a pos) (sAsg fa (tName i)) :=
  es_asg ha (eg_name i hN hi hx hf) hs hw rfl

/-! ### loops -/
/-- from (ρ0, H0) on the walk J gives these items, as long as ok holds of the store -/
def Wk (G : DG) (ρ0 : List Addr) (H0 : Hp) (J : It) (l : List PV) (ok : Store → Bool) : Prop := ∀ T' ρ H st, Mv G.T ρ0 H0 T' ρ H → RlS ⟨G.K, G.mg, T'⟩ ρ H st → ok st = true →
  (∀ i, i < l.length → J.go i H) ∧ J.stop l.length H ∧ ∀ i x H' p, l[i]? = some p → J.yld i H x H' → Ext T' ρ H ρ H' ∧ RlS ⟨G.K, G.mg, T'⟩ ρ H' st ∧ Rl ⟨G.K, G.mg, T'⟩ ρ H' p x
def Ti (G : DG) (E : XK) (f : DI) : TI := fun σ H R => ∃ ρ aσ st, RlE G ρ H aσ σ ∧ RlS G ρ H st ∧ Pst G E ρ H (fun r st' ρ' H' => ∀ J, Wk G ρ' H' J r.1 r.2 → R J H') (f aσ st)
def EI (X : Cx) (T : TR) (E : XK) (tg iter : Expr) (f : DI) : Prop := PI X tg iter (Ti (gOf X T) E f)
theorem pi_imp {tg iter : Expr} {w w' : TI} (h : PI X tg iter w) (i : ∀ σ H R, w' σ H R → w σ H R) : PI X tg iter w' := ⟨fun pins s σ H R I q => h.run pins s σ H R I (i σ H R q)⟩
theorem ti_bind {β : Type} {f : DI} {k : Src → Store → Res β} {K : β → Store → List Addr → Hp → Prop} {R : It → Hp → Prop} (hE : RlE G ρ H aσ σ) (hS : RlS G ρ H st) (h : Pst G E ρ H K ((f aσ st).bind k))
    (q : ∀ ρ1 H1 r st1 J, Ext G.T ρ H ρ1 H1 → RlS G ρ1 H1 st1 → RlE G ρ1 H1 aσ σ → Wk G ρ1 H1 J r.1 r.2 → Pst G E ρ1 H1 K (k r st1) → R J H1) : Ti G E f σ H R :=
  ⟨ρ, aσ, st, hE, hS, h.bind.imp fun r st1 ρ1 H1 _ _ z J w => q ρ1 H1 r st1 J z.1 z.2.1 (hE.ext z.1) w z.2.2⟩
theorem drop_some {α : Type} {l : List α} {i : Nat} (h : i < l.length) : l.drop i = l[i] :: l.drop (i + 1) := by rw [List.drop_eq_getElem_cons h]
theorem es_for {tg iter : Expr} {body : List Stmt} {src : DI} {t : DT} {b : DS} (w : List Nat) (hp : PassesOwn (model X.prog X.w) X.A X.env X.xe) (hc : X.calm = true) (hi : EI X T E tg iter src) (hg : EG X T E tg t) (hb : ESs X T E body b)
    (hs : ∀ x, foldedSetIterable iter X.env x = pure x := by intro _; rfl) : ES X T E (.For tg iter body [] pos) (sFor src t b w) := ps_imp (ps_for hp hc hi hg hb hs) fun D σ H q => by
  obtain ⟨ρ, aσ, st, hE, hS, h⟩ := q
  refine ti_bind hE hS h fun ρ0 H0 r st0 J x0 s0 e0 wk h => ?_
  obtain ⟨l, ok⟩ := r
  refine ⟨fun i m σ H => m = l.length - i ∧ i ≤ l.length ∧ ∃ ρ aσ st, Ext T ρ0 H0 ρ H ∧ RlE (gOf X T) ρ H aσ σ ∧ RlS (gOf X T) ρ H st ∧ Pst (gOf X T) E ρ H (KS (gOf X T) D) (forL t b w ok (l.drop i) aσ st), ⟨l.length, by simp, Nat.zero_le _, ρ0, aσ, st0, Ext.refl, e0, s0, h⟩, ?_⟩
  rintro i m σ H ⟨rfl, hil, ρ, aσ, st, x, e, s, h⟩
  by_cases hlt : i < l.length
  · rw [drop_some hlt] at h
    unfold forL at h
    split at h
    · rename_i hok
      obtain ⟨h1, h2, h3⟩ := wk T ρ H st x.mv s hok
      refine .inr ⟨h1 i hlt, fun σ' H' => ∃ ρ' aσ' st', Ext T ρ0 H0 ρ' H' ∧ RlE (gOf X T) ρ' H' aσ' σ' ∧ RlS (gOf X T) ρ' H' st' ∧ Pst (gOf X T) E ρ' H' (KS (gOf X T) D) (forL t b w ok (l.drop (i + 1)) aσ' st'), fun σ' H' q => ⟨l.length - (i + 1), by omega, rfl, hlt, q⟩, fun v H' y => ?_⟩
      obtain ⟨x1, s1, r1⟩ := h3 i v H' l[i] (List.getElem?_eq_getElem hlt) y
      refine tg_bind (e.ext x1) s1 r1 (h.base x1) fun ρ2 H2 aσ2 σ2 st2 x2 s2 e2 h => ?_
      refine ⟨ρ2, aσ2, st2, e2, s2, h.bind.imp fun r' st3 ρ3 H3 _ _ z σ3 e3 => ?_⟩
      obtain ⟨x3, s3, z⟩ := z
      obtain ⟨fl, aσ3⟩ := r'
      cases fl with
      | nx => exact ⟨ρ3, _, st3, ((x.trans x1).trans x2).trans x3, e3.wipe w, s3, z⟩
      | ct => exact ⟨ρ3, _, st3, ((x.trans x1).trans x2).trans x3, e3.wipe w, s3, z⟩
      | bk => exact z.ret s3 σ3 (e3.wipe w)
      | rt v => exact z.ret s3 σ3 e3
    · exact h.elim
  · have ei : i = l.length := by omega
    subst ei
    rw [List.drop_length] at h
    unfold forL at h
    split at h
    · rename_i hok
      obtain ⟨h1, h2, h3⟩ := wk T ρ H st x.mv s hok
      exact .inl ⟨h2, h.ret s σ (e.wipe w)⟩
    · exact h.elim
theorem es_while {body : List Stmt} {b : DS} (w : List Nat) (hp : PassesOwn (model X.prog X.w) X.A X.env X.xe) (hc : EB X T E c cb) (hb : ESs X T E body b) : ES X T E (.While c body [] pos) (sWhile cb b w) := ps_imp (ps_while hp hc hb) fun D σ H q => by
  obtain ⟨ρ, aσ, st, hE, hS, h⟩ := q
  unfold sWhile at h
  split at h
  · rename_i hn
    refine ⟨fun m σ H => ∃ ρ aσ st, RlE (gOf X T) ρ H aσ σ ∧ RlS (gOf X T) ρ H st ∧ Pst (gOf X T) E ρ H (KS (gOf X T) D) (whileN cb b w m aσ st), ⟨_, ρ, aσ, st, hE, hS, h⟩, ?_⟩
    rintro m σ H ⟨ρ, aσ, st, e, s, h⟩
    cases m with
    | zero => exact h.elim
    | succ m =>
      unfold whileN at h
      refine tb_bind e s h fun ρ1 H1 k st1 x1 s1 e1 h => ?_
      cases k with
      | true =>
        refine ite_tt ⟨fun σ' H' => ∃ ρ aσ st, RlE (gOf X T) ρ H' aσ σ' ∧ RlS (gOf X T) ρ H' st ∧ Pst (gOf X T) E ρ H' (KS (gOf X T) D) (whileN cb b w m aσ st), fun σ' H' q => ⟨m, Nat.lt_succ_self m, q⟩, ρ1, aσ, st1, e1, s1, ?_⟩
        have h : Pst (gOf X T) E ρ1 H1 (KS (gOf X T) D) ((b aσ st1).bind _) := h
        refine h.bind.imp fun r' st3 ρ3 H3 _ _ z σ3 e3 => ?_
        obtain ⟨x3, s3, z⟩ := z
        obtain ⟨fl, aσ3⟩ := r'
        cases fl with
        | nx => exact ⟨ρ3, _, st3, e3.wipe w, s3, z⟩
        | ct => exact ⟨ρ3, _, st3, e3.wipe w, s3, z⟩
        | bk => exact z.ret s3 σ3 (e3.wipe w)
        | rt v => exact z.ret s3 σ3 e3
      | false => exact ite_ff (h.ret s1 σ e1)
  · exact h.elim
end
end DN
set_option Elab.async false
set_option linter.all false
set_option maxRecDepth 100000
set_option maxHeartbeats 2000000
/-! DnIter: what is walked. -/
/-! ### enumerate(a tuple) -/
namespace PySem
open Sem (wp)
theorem dn_enumT (l : Addr) (items : Array Value) (o : Obj) (n : Nat) (hc : o.cls = .type "tuple") (hd : o.data = .seq items n) :
    Meets (Builtin.«enumerate.__new__» ⟨[.type "enumerate", .ref l], []⟩) (fun _ R s => s.heap.get? l = some o ∧
      R (.ok (.ret (.ref (s.heap.push { cls := .type "tuple_iterator", data := .fields #[.ref l, .int 0 0] }).objs.size)))
        { s with heap := (s.heap.push { cls := .type "tuple_iterator", data := .fields #[.ref l, .int 0 0] }).push { cls := .type "enumerate", data := .fields #[.none, .bool false, .ref s.heap.objs.size, rawInt 0, .none, .none] } }) :=
  .of_wp fun prog w A R s hh => by
    obtain ⟨hp, g, dr, tk, os⟩ := s
    obtain ⟨ht, hq⟩ := hh
    have hsub := sub_enumerate
    have hT : Heap.IsTuple (Shared.heap ⟨hp, g, dr, tk, os⟩) l items := ⟨o, ht, hc, n, hd⟩
    wp_walk
    refine wpAny_stack_any fun st => wpAny_pure ?_
    split
    · rename_i c _ _ _ _ _
      cases (c == Value.type "enumerate") <;> (wp_walk using wpAny_pyIter_tuple hT; exact ⟨_, rfl, hq⟩)
    · wp_walk using wpAny_pyIter_tuple hT
      exact ⟨_, rfl, hq⟩
theorem dn_call_enumT {prog : Program} {w : World} {A : Around} {E : Value → Shared → Prop} {s : Shared} {l : Addr} {items : Array Value} {Q : Value → Shared → Prop} (ht : s.heap.IsTuple l items)
    (q : ∀ h', IsEnum h' (s.heap.objs.size + 1) s.heap.objs.size 0 .none → h'.IsTupleIter s.heap.objs.size l 0 → (∀ b o, s.heap.get? b = some o → h'.get? b = some o) → Q (.ref (s.heap.objs.size + 1)) { s with heap := h' }) :
    wpAny (model prog w) A (call (.type "enumerate") [.ref l]) Q E s := by
  obtain ⟨o, hl, hc, n, hd⟩ := ht
  refine callType_new F.called_enumerate (by decide) (F.typeCall_enumerate_1 _) (F.newCall_enumerate_1 _) (fun obj => F.args_object_init_2 obj _) F.entry_enumerate_new (dn_enumT l items o n hc hd) ⟨hl, ?_⟩
  have hz : (s.heap.push { cls := .type "tuple_iterator", data := .fields #[.ref l, .int 0 0] }).objs.size = s.heap.objs.size + 1 := Heap.size_push ..
  show _ ∧ _
  rw [hz]
  have he : IsEnum ((s.heap.push { cls := .type "tuple_iterator", data := .fields #[.ref l, .int 0 0] }).push { cls := .type "enumerate", data := .fields #[.none, .bool false, .ref s.heap.objs.size, rawInt 0, .none, .none] }) (s.heap.objs.size + 1) s.heap.objs.size 0 .none := by
    have z := Heap.get?_push_size (s.heap.push { cls := .type "tuple_iterator", data := .fields #[.ref l, .int 0 0] }) (o := { cls := .type "enumerate", data := .fields #[.none, .bool false, .ref s.heap.objs.size, rawInt 0, .none, .none] }) rfl
    rwa [hz] at z
  exact ⟨⟨_, he, rfl⟩, q _ he ⟨_, Heap.get?_push_of_some _ (Heap.get?_push_size _ rfl), rfl, rfl⟩ fun b ob x => Heap.get?_push_of_some _ (Heap.get?_push_of_some _ x)⟩
end PySem
namespace DN
open PySem PySem.Spec PyProof.Rows L2
/-- the tuple at a, each item in a new pair behind its number -/
def IteT (K : PySem.W.Frag) (a : Addr) : It :=
  ⟨fun i H => ∃ (xs : List V) (x : V), SqT K H a xs ∧ xs[i]? = some x, fun i H v H' => ∃ T x, v = .ref T ∧ H T = none ∧ H' = upd H T (.tup [.int (i : Nat), x]) ∧ ∀ xs, SqT K H a xs → xs[i]? = some x, fun i H => ∃ xs : List V, SqT K H a xs ∧ xs.length ≤ i⟩
theorem turn_enumT {P : Program} {w : World} {K : PySem.W.Frag} {elts : List Expr} {kk : Nat} {tpos : Pos} (a e it : Addr) :
    Turn P w K (.Tuple elts kk tpos) (IteT K a) [e, it] e (fun i h => (∃ old, IsEnum h e it ((i : Nat) : Int) old) ∧ h.IsTupleIter it a i ∧ e ≠ it) where
  mem := by simp
  obj := fun i h st b hb => by
    obtain ⟨⟨old, he⟩, ⟨o, ho, hc, hd⟩, _⟩ := st
    rcases (show b = e ∨ b = it by simpa using hb) with rfl | rfl
    · exact ⟨_, he, fun v q => nomatch q⟩
    · exact ⟨o, ho, fun v q => by rw [hd] at q; cases q⟩
  keep := fun i h h' st k => ⟨let ⟨old, he⟩ := st.1; ⟨old, k e (by simp) _ he⟩, st.2.1.at fun o q => k it (by simp) o q, st.2.2⟩
  item := by
    intro X hP hw hK hc i pins s σ H E I hf st hg
    subst hP hw hK
    obtain ⟨⟨old, he⟩, hit, hne⟩ := st
    obtain ⟨xs, x, hq, hx⟩ := hg
    obtain ⟨its, rv, p, hz⟩ := I.tuple hq
    have pt : s.heap.IsTuple a its.toArray := p
    obtain ⟨u, hu, ru⟩ := rv.get hx
    have hel : e < s.heap.objs.size := Heap.lt_size he
    have hil : it < s.heap.objs.size := by obtain ⟨_, q, _⟩ := hit; exact Heap.lt_size q
    have hae : a ≠ e := fun z => by
      obtain ⟨ot, h1, h2, _⟩ := pt
      rw [z, show s.heap.get? e = _ from he] at h1
      cases h1
      simp at h2
    have hai : a ≠ it := fun z => by
      obtain ⟨ot, h1, h2, _⟩ := pt
      obtain ⟨oi, h3, h4, _⟩ := hit
      rw [z, h3] at h1
      cases h1
      rw [h4] at h2
      simp at h2
    have D := Draws.tuple (prog := X.prog) (w := X.w) (A := X.A.in1) (I.ok.hd hc) it a hai its.toArray
    have hin : i < its.toArray.size := by
      have := (List.getElem?_eq_some_iff.mp hu).1
      simpa using this
    refine wpAny_pyNext_enum_itemD D he ⟨hit, pt⟩ hin hne (by simp [Ne.symm hae, hne]) fun u2 h' tk hu2 ho hit' hT hsz hk => ?_
    have eu : u2 = u := by
      have h1 : its[i]? = some u2 := by simpa using hu2
      rw [hu] at h1
      exact (Option.some.inj h1).symm
    subst eu
    refine ⟨_, rfl, wpAny_letOwnedTupleGo_enum (s := { s with heap := h', toks := tk + 1 }) ho fun h'' he' sb => ?_⟩
    have hT2 : h''.get? s.heap.objs.size = some { cls := .type "tuple", data := .seq #[.int i tk, u2] } := (sb.2 _ (Nat.ne_of_gt hel)).trans hT
    have new : ObjOk X.prog X.w (upd H s.heap.objs.size (.tup [.int (i : Nat), x])) h'' s.heap.objs.size (.tup [.int (i : Nat), x]) :=
      ⟨by show 2 ≤ sizeLine; decide, [.int i tk, u2], .cons ⟨_, rfl⟩ (.cons ru .nil), ⟨_, hT2, rfl, _, rfl⟩⟩
    have I1 : Inv X pins σ (upd H s.heap.objs.size (.tup [.int (i : Nat), x])) { s with heap := h'', toks := tk + 1 } :=
      I.turnedNew (ch := [e, it]) (fun b ob hb q => (sb.2 b (fun z => hb (by simp [z]))).trans (hk b ob (fun z => hb (by simp [z])) (fun z => hb (by simp [z])) q)) hf (Nat.le_refl _) new
    have st2 : h''.IsTupleIter it a (i + 1) := hit'.1.at fun o q => (sb.2 it (Ne.symm hne)).trans q
    refine ⟨.ref s.heap.objs.size, _, I1, rfl, ⟨_, x, rfl, I.hok.fresh (Nat.le_refl _), rfl, fun ys hy => by rw [I.tuple_inj hy hq]; exact hx⟩, ⟨⟨u2, ?_⟩, st2, hne⟩, fun b hb => ?_⟩
    · rw [show ((i + 1 : Nat) : Int) = (i : Int) + 1 by omega]
      exact he'
    · have hb' : b < s.heap.objs.size := by
        rcases (show b = e ∨ b = it by simpa using hb) with rfl | rfl
        · exact hel
        · exact hil
      rw [upd_ne (Nat.ne_of_lt hb')]
      exact (hf b hb).1
  done := by
    intro X hP hw hK hc i pins s σ H E I hf st hg
    subst hP hw hK
    obtain ⟨⟨old, he⟩, hit, hne⟩ := st
    obtain ⟨xs, hq, hx⟩ := hg
    obtain ⟨its, rv, p, hz⟩ := I.tuple hq
    have pt : s.heap.IsTuple a its.toArray := p
    obtain ⟨f0, f1, f2, f3, f4, f5⟩ := hf it (by simp)
    have hl := rv.length
    have hT : s.TypeIs (.ref e) "enumerate" := ⟨_, he, rfl⟩
    unfold pyNext
    refine wpAny_bind (wpAny_attempt (wpAny_callSpecial?_slot (name := Str.ofString "__next__") hT F.slot_enumerate_next
      (wpAny_call_entry F.slot_enumerate_next hT F.entry_enumerate_next ?_ (F.args_enumerate_next_1 _))))
    refine wpAny_bind (m := field (.ref e) 2) (wpAny_field he rfl (x := .ref it) rfl ?_)
    refine wpAny_bind (wpAny_nextOf_tuple_end (I.ok.hd hc) hit pt (by simp; omega) fun h' x eb hx' => ?_)
    obtain ⟨o, ho, hcl⟩ := hx'
    refine wpAny_bind (wpAny_isInstance (T := "StopIteration") (b := true) ⟨o, ho, hcl⟩ isSubtype_stop ?_)
    exact wpAny_pure ⟨rfl, I.turned (t' := s.toks) (fun b o hb q => eb b o hb q) f0 f1 f3 f4 f5⟩
  self := fun A i s Q E st h => let ⟨⟨_, he⟩, _⟩ := st; wpAny_pyIter_enum he h
/-! ### what is walked: the rules -/
section
variable {X : Cx} {T : TR} {E : XK} {G : DG} {ρ : List Addr} {H : Hp} {σ : St} {aσ : AE} {st : Store}
variable {tg a b e : Expr} {fa fb f : DE} {pos p : Pos}
theorem pi_or {iter : Expr} {w w' : TI} (h : PI X tg iter w) (h' : PI X tg iter w') : PI X tg iter (fun σ H R => w σ H R ∨ w' σ H R) :=
  ⟨fun pins s σ H R I q => q.elim (h.run pins s σ H R I) (h'.run pins s σ H R I)⟩
theorem wk_tup {ρ0 : List Addr} {H0 : Hp} {a : Addr} {l : List PV} {xs : List V} {f : Bool} (q : TV G.K H0 (isW l) f a xs) (ra : RlAll G ρ0 H0 l xs) : Wk G ρ0 H0 (Itt G.K a) l fun _ => true := fun T' ρ H st x s _ => by
  have q' : SqT G.K H a xs := TV.sq (q.elim (fun ⟨o, p, z⟩ => .inl ⟨o, p, x.tups _ _ (mkT_tu _ _ _) z⟩) .inr)
  have ra' := RlAll.mv (K := G.K) (mg := G.mg) x ra
  refine ⟨fun i hi => ?_, ⟨xs, q', Nat.le_of_eq ra.length.symm⟩, fun i v H' p hp y => ?_⟩
  · obtain ⟨v, hv, _⟩ := ra'.get (List.getElem?_eq_getElem hi)
    exact ⟨xs, v, q', hv⟩
  · obtain ⟨rfl, y⟩ := y
    obtain ⟨w, hw, r⟩ := ra'.get hp
    have e := y xs q'
    rw [hw] at e
    cases e
    exact ⟨Ext.refl, s, r⟩
theorem wk_lst {ρ0 : List Addr} {H0 : Hp} {a : Addr} {l : List PV} {xs : List V} (q : LV G.T ρ0 H0 a xs) (ra : RlAll G ρ0 H0 l xs) : Wk G ρ0 H0 (Itl G.K a) l fun _ => true := fun T' ρ H st x s _ => by
  have q' : SqL G.K H a xs := .inl (x.keep _ _ q.1 q.2 (fun _ z => by cases z)).1
  have ra' := RlAll.mv (K := G.K) (mg := G.mg) x ra
  refine ⟨fun i hi => ?_, ⟨xs, q', Nat.le_of_eq ra.length.symm⟩, fun i v H' p hp y => ?_⟩
  · obtain ⟨v, hv, _⟩ := ra'.get (List.getElem?_eq_getElem hi)
    exact ⟨xs, v, q', hv⟩
  · obtain ⟨rfl, y⟩ := y
    obtain ⟨w, hw, r⟩ := ra'.get hp
    have e := y xs q'
    rw [hw] at e
    cases e
    exact ⟨Ext.refl, s, r⟩
open Classical in
theorem wk_ref {ρ0 : List Addr} {H0 : Hp} {n : Nat} {a : Addr} {l : List PV} (h : ρ0[n]? = some a) : Wk G ρ0 H0 (Itl G.K a) l fun st => decide (st[n]? = some (.lst l)) := fun T' ρ H st x s ok => by
  have es : st[n]? = some (.lst l) := of_decide_eq_true ok
  have ea : ρ[n]? = some a := by
    cases Rl.mv (K := G.K) (mg := G.mg) x (Rl.ref h) with
    | ref q => exact q
  have ro := s.ref ea es
  obtain ⟨xs, hh, ra⟩ : ∃ xs, H a = some (.lst xs) ∧ RlAll ⟨G.K, G.mg, T'⟩ ρ H l xs := by
    cases ro with
    | lst hh ra => exact ⟨_, hh, ra⟩
  have q' : SqL G.K H a xs := .inl (.inl hh)
  refine ⟨fun i hi => ?_, ⟨xs, q', Nat.le_of_eq ra.length.symm⟩, fun i v H' p hp y => ?_⟩
  · obtain ⟨v, hv, _⟩ := ra.get (List.getElem?_eq_getElem hi)
    exact ⟨xs, v, q', hv⟩
  · obtain ⟨rfl, y⟩ := y
    obtain ⟨w, hw, r⟩ := ra.get hp
    have e := y xs q'
    rw [hw] at e
    cases e
    exact ⟨Ext.refl, s, r⟩
theorem wk_str {ρ0 : List Addr} {H0 : Hp} {z : Str} : Wk G ρ0 H0 (Its z) (z.cps.toList.map fun c => PV.str ⟨#[c]⟩) fun _ => true := fun T' ρ H st x s _ => by
  refine ⟨fun i hi => by show i < z.cps.size; simpa using hi, by show z.cps.size ≤ _; simp, fun i v H' p hp y => ?_⟩
  obtain ⟨rfl, c, hc, rfl⟩ := y
  rw [List.getElem?_map] at hp
  have e : z.cps.toList[i]? = some c := by simpa using hc
  rw [e] at hp
  cases hp
  exact ⟨Ext.refl, s, .str _⟩
theorem wk_rg {ρ0 : List Addr} {H0 : Hp} {lo hi : Int} : Wk G ρ0 H0 (Itr lo (hi - lo).toNat) (rgP lo hi) fun _ => true := fun T' ρ H st x s _ => by
  have hl : (rgP lo hi).length = (hi - lo).toNat := by simp [rgP]
  refine ⟨fun i hi => by rw [hl] at hi; exact hi, by rw [hl]; exact Nat.le_refl _, fun i v H' p hp y => ?_⟩
  obtain ⟨rfl, rfl⟩ := y
  unfold rgP at hp
  rw [List.getElem?_map] at hp
  obtain ⟨j, hj, rfl⟩ := Option.map_eq_some_iff.mp hp
  have ej : j = i := by
    rw [List.getElem?_range (by have := (List.getElem?_eq_some_iff.mp hj).1; simpa using this)] at hj
    exact (Option.some.inj hj).symm
  subst ej
  exact ⟨Ext.refl, s, .int _⟩
theorem ei_seq (ha : EV X T E a fa) : EI X T E tg a (iSeq fa) := pi_imp (pi_or (pi_or (pi_list ha) (pi_tup ha)) (pi_str ha)) fun σ H R q => by
  obtain ⟨ρ, aσ, st, hE, hS, h⟩ := q
  have key : ∀ W : VK, (∀ ρ1 H1 x v st1, Ext T ρ H ρ1 H1 → RlS (gOf X T) ρ1 H1 st1 → RlE (gOf X T) ρ1 H1 aσ σ → Rl (gOf X T) ρ1 H1 x v → fa aσ st = .ok x st1 → Pst (gOf X T) E ρ1 H1 (fun r _ ρ' H' => ∀ J, Wk (gOf X T) ρ' H' J r.1 r.2 → R J H') (srcOf x st1) → W v H1) → Tv (gOf X T) E fa σ H W := fun W k => by
    refine ⟨ρ, aσ, st, hE, hS, ?_⟩
    have h := h.bind
    cases q : fa aσ st with
    | ok x st1 =>
      rw [q] at h
      exact fun ρ1 H1 x1 s1 v r => k ρ1 H1 x v st1 x1 s1 (hE.ext x1) r q (h ρ1 H1 x1 s1).2.2
    | exc c w st1 => rw [q] at h; exact h
    | fail => rw [q] at h; exact h
  cases q : fa aσ st with
  | ok x st1 =>
    have sub : ∀ {x' : PV} {st2 : Store}, fa aσ st = .ok x' st2 → x' = x := fun e => by rw [q] at e; cases e; rfl
    cases x with
    | tup l =>
      refine .inl (.inr (key _ fun ρ1 H1 x v st1 x1 s1 e1 r qq h => ?_))
      cases sub qq
      cases r with
      | tup q ra => exact ⟨_, rfl, ⟨_, q.sq⟩, h.ret s1 _ (wk_tup q ra)⟩
    | lst l =>
      refine .inl (.inl (key _ fun ρ1 H1 x v st1 x1 s1 e1 r qq h => ?_))
      cases sub qq
      cases r with
      | lst q ra => exact ⟨_, rfl, ⟨_, q.sq⟩, h.ret s1 _ (wk_lst q ra)⟩
    | ref n =>
      refine .inl (.inl (key _ fun ρ1 H1 x v st1 x1 s1 e1 r qq h => ?_))
      cases sub qq
      unfold srcOf at h
      cases r with
      | ref q =>
        dsimp only at h
        split at h
        · rename_i l e
          cases s1.ref q e with
          | lst hh ra => exact ⟨_, rfl, ⟨_, .inl (.inl hh)⟩, h.ret s1 _ (wk_ref q)⟩
        · exact h.elim
    | str z =>
      refine .inr (key _ fun ρ1 H1 x v st1 x1 s1 e1 r qq h => ?_)
      cases sub qq
      cases r
      exact ⟨_, rfl, h.ret s1 _ wk_str⟩
    | _ =>
      refine .inl (.inl (key _ fun ρ1 H1 x v st1 x1 s1 e1 r qq h => ?_))
      cases sub qq
      exact h.elim
  | exc c w st1 =>
    refine .inl (.inl (key _ fun ρ1 H1 x v st1 x1 s1 e1 r qq h => ?_))
    rw [q] at qq
    cases qq
  | fail =>
    unfold iSeq at h
    rw [q] at h
    exact h.elim
theorem rgOk_b {i : Int} (h : rgOk i = true) : -(2 ^ 62) ≤ i ∧ i < 2 ^ 62 := by
  have h := of_decide_eq_true h
  omega
theorem ei_rg1 (hg : Gl X "range") (hm : X.mg "range" = none) (ha : EV X T E a fa) (hs : starEach [a] X.env = [(false, eval a X.env)] := by rfl) : EI X T E tg (.Call (.Name "range" p) [a] [] pos) (iRg1 fa) :=
  pi_imp (pi_range1 hg hm (pa_cons ha pa_nil hs) hs) fun σ H R q => by
  obtain ⟨ρ, aσ, st, hE, hS, h⟩ := q
  refine tv_bind hE hS h fun ρ1 H1 x v st1 _ s1 _ rx h => ?_
  cases x with
  | int n =>
    cases rx
    dsimp only at h
    split at h
    · rename_i ok
      refine ⟨n, rfl, (rgOk_b ok).1, (rgOk_b ok).2, ?_⟩
      have z := h.ret s1 _ wk_rg
      rwa [Int.sub_zero] at z
    · exact h.elim
  | _ => exact h.elim
theorem ei_rg2 (hg : Gl X "range") (hm : X.mg "range" = none) (ha : EV X T E a fa) (hb : EV X T E b fb) (hs : starEach [a, b] X.env = [(false, eval a X.env), (false, eval b X.env)] := by rfl) (hs2 : starEach [b] X.env = [(false, eval b X.env)] := by rfl) (hs3 : starEach [a, b] X.env = (false, eval a X.env) :: starEach [b] X.env := by rfl) :
    EI X T E tg (.Call (.Name "range" p) [a, b] [] pos) (iRg2 fa fb) :=
  pi_imp (pi_range2 hg hm (pa_cons ha (pa_cons hb pa_nil hs2) hs3) hs hs2) fun σ H R q => by
  obtain ⟨ρ, aσ, st, hE, hS, h⟩ := q
  refine tv_bind hE hS h fun ρ1 H1 x v st1 _ s1 e1 rx h => tv_bind e1 s1 h fun ρ2 H2 y u st2 x2 s2 e2 ry h => ?_
  have rx := rx.ext x2
  cases x with
  | int i =>
    cases y with
    | int j =>
      cases rx
      cases ry
      dsimp only at h
      split at h
      · rename_i ok
        obtain ⟨o1, o2⟩ := Bool.and_eq_true_iff.mp ok
        exact ⟨i, j, rfl, ⟨(rgOk_b o1).1, (rgOk_b o1).2, (rgOk_b o2).1, (rgOk_b o2).2⟩, h.ret s2 _ wk_rg⟩
      · exact h.elim
    | _ => exact h.elim
  | _ => exact h.elim
end
end DN
set_option Elab.async false
set_option linter.all false
set_option maxRecDepth 100000
set_option maxHeartbeats 2000000
/-! DnIter2: enumerate, comprehensions. -/
namespace DN
open PySem PySem.Spec PyProof.Rows L2

open Classical in
/-- enumerate -/
noncomputable def srcEn (p : PV) : M Src := fun st => match p with
  | .tup l => .ok (numbered 0 l, fun _ => true) st
  | .lst l => .ok (numbered 0 l, fun _ => true) st
  | .ref n => (match st[n]? with
    | some (.lst l) => .ok (numbered 0 l, fun st => decide (st[n]? = some (.lst l))) st
    | _ => .fail)
  | _ => .fail
noncomputable def iEn (f : DE) : DI := fun σ st => (f σ st).bind fun p st => srcEn p st
theorem numbered_len : ∀ (k : Nat) (l : List PV), (numbered k l).length = l.length
  | _, [] => rfl
  | k, _ :: r => by simp [numbered, numbered_len (k + 1) r]
theorem numbered_get : ∀ (k i : Nat) (l : List PV), (numbered k l)[i]? = l[i]?.map fun p => PV.tup [.int ((k + i : Nat) : Int), p]
  | _, _, [] => by simp [numbered]
  | k, 0, p :: r => by simp [numbered]
  | k, i + 1, p :: r => by
    simp only [numbered, List.getElem?_cons_succ]
    rw [numbered_get (k + 1) i r]
    rw [show k + 1 + i = k + (i + 1) by omega]

section
variable {X : Cx} {T : TR} {E : XK} {G : DG} {ρ : List Addr} {H : Hp} {σ : St} {aσ : AE} {st : Store}
variable {tg a b e : Expr} {fa fb f : DE} {pos p : Pos}
theorem pair_new {T0 : Addr} {i : Nat} {q : PV} {x : V} (s : RlS G ρ H st) (hT : H T0 = none) (r : Rl G ρ H q x) : Ext G.T ρ H ρ (upd H T0 (.tup [.int (i : Nat), x])) ∧ RlS G ρ (upd H T0 (.tup [.int (i : Nat), x])) st ∧ Rl G ρ (upd H T0 (.tup [.int (i : Nat), x])) (.tup [.int (i : Nat), q]) (.ref T0) :=
  ⟨ext_new hT, s.new hT, .tup (.inl ⟨{ cls := .type "tuple", data := .seq #[] 0 }, plT_new _ _, upd_same⟩) (.cons (.int _) (.cons (r.ext (ext_new hT)) .nil))⟩
theorem wk_enT {ρ0 : List Addr} {H0 : Hp} {a : Addr} {l : List PV} {xs : List V} {f : Bool} (q : TV G.K H0 (isW l) f a xs) (ra : RlAll G ρ0 H0 l xs) : Wk G ρ0 H0 (IteT G.K a) (numbered 0 l) fun _ => true := fun T' ρ H st x s _ => by
  have q' : SqT G.K H a xs := TV.sq (q.elim (fun ⟨o, p, z⟩ => .inl ⟨o, p, x.tups _ _ (mkT_tu _ _ _) z⟩) .inr)
  have ra' := RlAll.mv (K := G.K) (mg := G.mg) x ra
  rw [numbered_len]
  refine ⟨fun i hi => ?_, ⟨xs, q', Nat.le_of_eq ra.length.symm⟩, fun i v H' p hp y => ?_⟩
  · obtain ⟨v, hv, _⟩ := ra'.get (List.getElem?_eq_getElem hi)
    exact ⟨xs, v, q', hv⟩
  · obtain ⟨T0, z, rfl, hT, rfl, y⟩ := y
    rw [numbered_get] at hp
    obtain ⟨p', hp', rfl⟩ := Option.map_eq_some_iff.mp hp
    obtain ⟨w, hw, r⟩ := ra'.get hp'
    have e := y xs q'
    rw [hw] at e
    cases e
    rw [Nat.zero_add]
    exact pair_new s hT r
theorem wk_enL {ρ0 : List Addr} {H0 : Hp} {a : Addr} {l : List PV} {xs : List V} (q : LV G.T ρ0 H0 a xs) (ra : RlAll G ρ0 H0 l xs) : Wk G ρ0 H0 (Ite G.K a) (numbered 0 l) fun _ => true := fun T' ρ H st x s _ => by
  have q' : SqL G.K H a xs := .inl (x.keep _ _ q.1 q.2 (fun _ z => by cases z)).1
  have ra' := RlAll.mv (K := G.K) (mg := G.mg) x ra
  rw [numbered_len]
  refine ⟨fun i hi => ?_, ⟨xs, q', Nat.le_of_eq ra.length.symm⟩, fun i v H' p hp y => ?_⟩
  · obtain ⟨v, hv, _⟩ := ra'.get (List.getElem?_eq_getElem hi)
    exact ⟨xs, v, q', hv⟩
  · obtain ⟨T0, z, rfl, hT, rfl, y⟩ := y
    rw [numbered_get] at hp
    obtain ⟨p', hp', rfl⟩ := Option.map_eq_some_iff.mp hp
    obtain ⟨w, hw, r⟩ := ra'.get hp'
    have e := y xs q'
    rw [hw] at e
    cases e
    rw [Nat.zero_add]
    exact pair_new s hT r
open Classical in
theorem wk_enR {ρ0 : List Addr} {H0 : Hp} {n : Nat} {a : Addr} {l : List PV} (h : ρ0[n]? = some a) : Wk G ρ0 H0 (Ite G.K a) (numbered 0 l) fun st => decide (st[n]? = some (.lst l)) := fun T' ρ H st x s ok => by
  have es : st[n]? = some (.lst l) := of_decide_eq_true ok
  have ea : ρ[n]? = some a := by
    cases Rl.mv (K := G.K) (mg := G.mg) x (Rl.ref h) with
    | ref q => exact q
  have ro := s.ref ea es
  obtain ⟨xs, hh, ra'⟩ : ∃ xs, H a = some (.lst xs) ∧ RlAll ⟨G.K, G.mg, T'⟩ ρ H l xs := by
    cases ro with
    | lst hh ra => exact ⟨_, hh, ra⟩
  have q' : SqL G.K H a xs := .inl (.inl hh)
  rw [numbered_len]
  refine ⟨fun i hi => ?_, ⟨xs, q', Nat.le_of_eq ra'.length.symm⟩, fun i v H' p hp y => ?_⟩
  · obtain ⟨v, hv, _⟩ := ra'.get (List.getElem?_eq_getElem hi)
    exact ⟨xs, v, q', hv⟩
  · obtain ⟨T0, z, rfl, hT, rfl, y⟩ := y
    rw [numbered_get] at hp
    obtain ⟨p', hp', rfl⟩ := Option.map_eq_some_iff.mp hp
    obtain ⟨w, hw, r⟩ := ra'.get hp'
    have e := y xs q'
    rw [hw] at e
    cases e
    rw [Nat.zero_add]
    exact pair_new s hT r
/-- enumerate(t), t a tuple -/
def iEnumT (K : PySem.W.Frag) (ta : TA) : TI := fun σ H R => ta σ H fun vs H1 => ∃ a xs, vs = [.ref a] ∧ SqT K H1 a xs ∧ R (IteT K a) H1
theorem pi_enumT {e : Expr} {ta : TA} {p pos tpos : Pos} {elts : List Expr} {kk : Nat} (hg : Gl X "enumerate") (hm : X.mg "enumerate" = none) (ha : PA X [e] ta) (hs : starEach [e] X.env = [(false, eval e X.env)] := by rfl) :
    PI X (.Tuple elts kk tpos) (.Call (.Name "enumerate" p) [e] [] pos) (iEnumT X.K ta) := by
  refine ⟨fun pins s σ H R I h => ?_⟩
  refine Call_ (ld_blt I hg hm boot_enumerate (PyProof.Rows.callWith_type1 (thn (ha.run pos pins s σ H _ I h) fun us s1 ⟨vs, H1, I1, r1, q1⟩ => ?_) hs rfl))
  obtain ⟨a, xs, rfl, hq, q⟩ := q1
  obtain ⟨u, rfl, r⟩ := vals1 r1
  cases r
  obtain ⟨its, rv, pt, hz⟩ := I1.tuple hq
  refine dn_call_enumT (show s1.heap.IsTuple a its.toArray from pt) fun h' he hit hk => wpAny_pyIter_enum he ?_
  refine ⟨s1.heap.objs.size + 1, [s1.heap.objs.size + 1, s1.heap.objs.size], _, _, H1, rfl, I1.kept (t' := s1.toks) hk, turn_enumT a (s1.heap.objs.size + 1) s1.heap.objs.size, ⟨⟨.none, he⟩, hit, Nat.succ_ne_self _⟩, fun b hb => ?_, q⟩
  have hle : s1.heap.objs.size ≤ b := by
    rcases (show b = s1.heap.objs.size + 1 ∨ b = s1.heap.objs.size by simpa using hb) with rfl | rfl
    · exact Nat.le_add_right _ _
    · exact Nat.le_refl _
  exact I1.fpOk hle (I1.hok.fresh hle)
theorem ei_enum {elts : List Expr} {kk : Nat} {tpos : Pos} (hg : Gl X "enumerate") (hm : X.mg "enumerate" = none) (ha : EV X T E a fa) (hs : starEach [a] X.env = [(false, eval a X.env)] := by rfl) : EI X T E (.Tuple elts kk tpos) (.Call (.Name "enumerate" p) [a] [] pos) (iEn fa) :=
  pi_imp (pi_or (pi_enum hg hm (pa_cons ha pa_nil hs) hs) (pi_enumT hg hm (pa_cons ha pa_nil hs) hs)) fun σ H R q => by
  obtain ⟨ρ, aσ, st, hE, hS, h⟩ := q
  have key : ∀ W : VK, (∀ ρ1 H1 x v st1, Ext T ρ H ρ1 H1 → RlS (gOf X T) ρ1 H1 st1 → RlE (gOf X T) ρ1 H1 aσ σ → Rl (gOf X T) ρ1 H1 x v → fa aσ st = .ok x st1 → Pst (gOf X T) E ρ1 H1 (fun r _ ρ' H' => ∀ J, Wk (gOf X T) ρ' H' J r.1 r.2 → R J H') (srcEn x st1) → W v H1) → Tv (gOf X T) E fa σ H W := fun W k => by
    refine ⟨ρ, aσ, st, hE, hS, ?_⟩
    have h := h.bind
    cases q : fa aσ st with
    | ok x st1 =>
      rw [q] at h
      exact fun ρ1 H1 x1 s1 v r => k ρ1 H1 x v st1 x1 s1 (hE.ext x1) r q (h ρ1 H1 x1 s1).2.2
    | exc c w st1 => rw [q] at h; exact h
    | fail => rw [q] at h; exact h
  cases q : fa aσ st with
  | ok x st1 =>
    have sub : ∀ {x' : PV} {st2 : Store}, fa aσ st = .ok x' st2 → x' = x := fun e => by rw [q] at e; cases e; rfl
    cases x with
    | tup l =>
      refine .inr (key _ fun ρ1 H1 x v st1 x1 s1 e1 r qq h => ?_)
      cases sub qq
      cases r with
      | tup q ra => exact ⟨_, _, rfl, q.sq, h.ret s1 _ (wk_enT q ra)⟩
    | lst l =>
      refine .inl (key _ fun ρ1 H1 x v st1 x1 s1 e1 r qq h => ?_)
      cases sub qq
      cases r with
      | lst q ra => exact ⟨_, _, rfl, q.sq, h.ret s1 _ (wk_enL q ra)⟩
    | ref n =>
      refine .inl (key _ fun ρ1 H1 x v st1 x1 s1 e1 r qq h => ?_)
      cases sub qq
      unfold srcEn at h
      cases r with
      | ref q =>
        dsimp only at h
        split at h
        · rename_i l e
          cases s1.ref q e with
          | lst hh ra => exact ⟨_, _, rfl, .inl (.inl hh), h.ret s1 _ (wk_enR q)⟩
        · exact h.elim
    | _ =>
      refine .inl (key _ fun ρ1 H1 x v st1 x1 s1 e1 r qq h => ?_)
      cases sub qq
      exact h.elim
  | exc c w st1 =>
    refine .inl (key _ fun ρ1 H1 x v st1 x1 s1 e1 r qq h => ?_)
    rw [q] at qq
    cases qq
  | fail =>
    unfold iEn at h
    rw [q] at h
    exact h.elim

/-! ### list comprehensions -/
def testsOk (X : Cx) (T : TR) (E : XK) (ifs : List Expr) (f : DB) : Prop := PTs X ifs (Tb (gOf X T) E f)
def bYes : DB := fun _ st => .ok true st
theorem pts_imp {ifs : List Expr} {t t' : TT} (h : PTs X ifs t) (i : ∀ σ H Q, t' σ H Q → t σ H Q) : PTs X ifs t' := ⟨fun pins s σ H Q I q => h.run pins s σ H Q I (i σ H Q q)⟩
theorem ets_nil : testsOk X T E [] bYes := pts_imp pts_nil fun σ H W q => by
  obtain ⟨ρ, aσ, st, hE, hS, h⟩ := q
  exact h.ret hS
theorem ets_one {c : Expr} {g : DB} (h : EB X T E c g) : testsOk X T E [c] g := pts_one h
end
end DN
set_option Elab.async false
set_option linter.all false
set_option maxRecDepth 100000
set_option maxHeartbeats 2000000
/-! DnComp: list comprehensions. -/
namespace DN
open PySem PySem.Spec PyProof.Rows L2
/-- no exception leaves -/
def noX {α : Type} (r : Res α) : Res α := match r with
  | .exc _ _ _ => .fail
  | r => r
/-- the items of a comprehension -/
def lcI (t : DT) (c : DB) (e : DE) (okS : Store → Bool) (σ : AE) : List PV → M (List PV)
  | [], st => if okS st then .ok [] st else .fail
  | p :: r, st => if okS st then (noX (t p σ st)).bind fun σ' st => (noX (c σ' st)).bind fun k st =>
      if k then (noX (e σ' st)).bind fun v st => (lcI t c e okS σ r st).bind fun vs st => .ok (v :: vs) st else lcI t c e okS σ r st
    else .fail
def dCompL (s : DI) (t : DT) (c : DB) (e : DE) (w : List Nat) (m : List PV → M PV) : DE := fun σ st => (s σ st).bind fun r st => (lcI t c e r.2 (wipeA σ w) r.1 st).bind fun vs st => m vs st

section
variable {X : Cx} {T : TR} {E : XK} {G : DG} {ρ : List Addr} {H : Hp} {σ : St} {aσ : AE} {st : Store}
theorem bind_bind {α β γ : Type} (r : Res α) (f : α → Store → Res β) (g : β → Store → Res γ) : (r.bind f).bind g = r.bind fun a st => (f a st).bind g := by cases r <;> rfl
theorem pst_noX {α β : Type} {K : β → Store → List Addr → Hp → Prop} {r : Res α} {k : α → Store → Res β} (h : Pst G E ρ H K ((noX r).bind k)) : ∃ a st, r = .ok a st ∧ Pst G E ρ H K (k a st) := by
  cases r with
  | ok a st => exact ⟨a, st, rfl, h⟩
  | exc c w st => exact h.elim
  | fail => exact h.elim
theorem wipe_at (i : Nat) : ∀ (w : List Nat) (σ : St), (wipe σ w)[i]? = if i ∈ w then σ[i]?.map fun _ => none else σ[i]?
  | [], σ => by simp [wipe]
  | j :: r, σ => by
    unfold wipe
    by_cases e : j = i
    · subst e
      rw [if_pos List.mem_cons_self]
      by_cases hl : j < σ.length
      · rw [List.getElem?_set_self (by rw [wipe_length]; exact hl), List.getElem?_eq_getElem hl]
        rfl
      · rw [List.getElem?_eq_none (by rw [List.length_set, wipe_length]; omega), List.getElem?_eq_none (by omega)]
        rfl
    · rw [List.getElem?_set_ne e, wipe_at i r σ]
      by_cases h : i ∈ r
      · rw [if_pos h, if_pos (List.mem_cons_of_mem _ h)]
      · rw [if_neg h, if_neg fun z => (List.mem_cons.mp z).elim (fun z => e z.symm) h]
theorem wipe_eq {i : Nat} {v : V} {w : List Nat} {σ : St} (h : i ∈ w) : wipe (σ.set i (some v)) w = wipe σ w := by
  refine List.ext_getElem? fun n => ?_
  rw [wipe_at, wipe_at]
  by_cases e : n ∈ w
  · rw [if_pos e, if_pos e]
    by_cases hn : i = n
    · subst hn
      by_cases hl : i < σ.length
      · rw [List.getElem?_set_self hl, List.getElem?_eq_getElem hl]
        rfl
      · rw [List.getElem?_eq_none (by rw [List.length_set]; omega), List.getElem?_eq_none (by omega)]
    · rw [List.getElem?_set_ne hn]
  · rw [if_neg e, if_neg e, List.getElem?_set_ne fun z => e (by rw [← z]; exact h)]
theorem wipe_wipe {w : List Nat} {σ : St} : wipe (wipe σ w) w = wipe σ w := by
  refine List.ext_getElem? fun n => ?_
  rw [wipe_at]
  split
  · rename_i h
    rw [wipe_at, if_pos h]
    cases σ[n]? <;> rfl
  · rfl
theorem wipeA_len (w : List Nat) : ∀ aσ : AE, (wipeA aσ w).length = aσ.length := by
  induction w with
  | nil => intro _; rfl
  | cons i r ih => intro aσ; unfold wipeA; rw [ih, List.length_set]
theorem wipeA_some {i : Nat} {p : PV} : ∀ (w : List Nat) (aσ : AE), (wipeA aσ w)[i]? = some (some p) → aσ[i]? = some (some p) ∧ i ∉ w
  | [], aσ, h => ⟨h, by simp⟩
  | j :: r, aσ, h => by
    unfold wipeA at h
    obtain ⟨h1, h2⟩ := wipeA_some r _ h
    have ne : i ≠ j := fun e => by
      subst e
      have hl := (List.getElem?_eq_some_iff.mp h1).1
      rw [List.length_set] at hl
      rw [List.getElem?_set_self hl] at h1
      cases h1
    rw [List.getElem?_set_ne (Ne.symm ne)] at h1
    exact ⟨h1, fun hm => (List.mem_cons.mp hm).elim ne h2⟩
theorem RlE.wiped (w : List Nat) (h : RlE G ρ H aσ σ) : RlE G ρ H (wipeA aσ w) (L2.wipe σ w) :=
  ⟨by rw [wipeA_len, wipe_length]; exact h.len, fun i p hp => by
    obtain ⟨h1, h2⟩ := wipeA_some w _ hp
    obtain ⟨v, h3, r⟩ := h.at_ i p h1
    exact ⟨v, by rw [wipe_at, if_neg h2]; exact h3, r⟩⟩
/-- a target whose slots are all of w -/
def Tgw (G : DG) (E : XK) (w : List Nat) (f : DT) : TG := fun v σ H Q => ∃ ρ aσ st p, RlE G ρ H aσ σ ∧ RlS G ρ H st ∧ Rl G ρ H p v ∧ Pst G E ρ H (fun aσ' _ ρ' H' => ∀ σ', RlE G ρ' H' aσ' σ' → wipe σ' w = wipe σ w → Q σ' H') (f p aσ st)
def Tgws (G : DG) (E : XK) (w : List Nat) (f : DTs) : TGs := fun vs σ H Q => ∃ ρ aσ st ps, RlE G ρ H aσ σ ∧ RlS G ρ H st ∧ RlAll G ρ H ps vs ∧ Pst G E ρ H (fun aσ' _ ρ' H' => ∀ σ', RlE G ρ' H' aσ' σ' → wipe σ' w = wipe σ w → Q σ' H') (f ps aσ st)
def EGw (X : Cx) (T : TR) (E : XK) (w : List Nat) (tg : Expr) (f : DT) : Prop := PG X tg (Tgw (gOf X T) E w f)
def EGws (X : Cx) (T : TR) (E : XK) (w : List Nat) (tg : List Expr) (f : DTs) : Prop := PGs X tg (Tgws (gOf X T) E w f)
variable {pos : Pos} {w : List Nat}
theorem egw_name (i : Nat) {x : Str} (hN : X.N.Nodup) (hw : i ∈ w := by decide) (hi : X.N[i]? = some x := by rfl) (hx : Loc X.env.scope x := by first | exact Or.inl rfl | exact Or.inr rfl) (hf : X.fn x = true ∨ X.env.scope.names.lookup x = some .local := by first | exact .inl rfl | exact .inr rfl) : EGw X T E w (.Name x pos) (tName i) := pg_imp (pg_name hN hi hx hf) fun v σ H Q q => by
  obtain ⟨ρ, aσ, st, p, hE, hS, r, h⟩ := q
  exact h.ret hS _ (hE.set r) (wipe_eq hw)
theorem egws_nil : EGws X T E w [] tNil := pgs_imp pgs_nil fun vs σ H Q q => by
  obtain ⟨ρ, aσ, st, ps, hE, hS, r, h⟩ := q
  unfold tNil at h
  split at h
  · cases r; exact ⟨rfl, h.ret hS _ hE rfl⟩
  · exact h.elim
theorem egws_cons {tg : Expr} {tgs : List Expr} {t : DT} {ts : DTs} (h1 : EGw X T E w tg t) (h2 : EGws X T E w tgs ts) (hs : (assignEach (tg :: tgs) X.env).map (·.2) = assign tg X.env :: (assignEach tgs X.env).map (·.2) := by rfl) : EGws X T E w (tg :: tgs) (tCons t ts) :=
  pgs_imp (pgs_cons h1 h2 hs) fun vs σ H Q q => by
  obtain ⟨ρ, aσ, st, ps, hE, hS, r, h⟩ := q
  cases r with
  | nil => exact h.elim
  | cons r rs =>
    refine ⟨_, _, rfl, ρ, aσ, st, _, hE, hS, r, h.bind.imp fun a st1 ρ1 H1 _ _ z σ1 e1 w1 => ?_⟩
    exact ⟨ρ1, a, st1, _, e1, z.2.1, rs.ext z.1, z.2.2.imp fun b st2 ρ2 H2 _ _ k σ2 e2 w2 => k σ2 e2 (w2.trans w1)⟩
theorem egw_tup {tgs : List Expr} {ts : DTs} {k : Nat} {n : Nat} (hc : X.calm = true) (h : EGws X T E w tgs ts) (hn : (assignEach tgs X.env).length = n := by rfl) (hst : (assignEach tgs X.env).findIdx? (·.1) = none := by rfl) : EGw X T E w (.Tuple tgs k pos) (tTupP n ts) :=
  pg_imp (pg_tup hc h hn hst) fun v σ H Q q => by
  obtain ⟨ρ, aσ, st, p, hE, hS, r, h⟩ := q
  unfold tTupP at h
  split at h
  · split at h
    · rename_i l hl
      cases r with
      | tup q ra => exact ⟨_, _, rfl, q.sq, by rw [← ra.length]; exact hl, ρ, aσ, st, l, hE, hS, ra, h⟩
    · exact h.elim
  · exact h.elim
end

section
variable {X : Cx} {T : TR} {E : XK} {ρ : List Addr} {H : Hp} {σ : St} {aσ : AE} {st : Store}
variable {elt tg iter : Expr} {ifs : List Expr} {scope : Scope} {own : List (Str × Nat)} {pos : Pos} {src : DI} {t : DT} {c : DB} {e : DE}
abbrev E0' : XK := fun _ _ _ => False
/-- a list in the making at D, readings for every D -/
def anyG (X : Cx) (T : TR) (w : List Nat) (t : DT) : TG := fun v σ H Q => ∃ D, Tgw (gOf X (T.add D)) E0' w t v σ H Q
def anyB (X : Cx) (T : TR) (c : DB) : TT := fun σ H Q => ∃ D, Tb (gOf X (T.add D)) E0' c σ H Q
def anyV (X : Cx) (T : TR) (e : DE) : TE := fun σ H Q => ∃ D, Tv (gOf X (T.add D)) E0' e σ H Q
theorem lcI_noexc {t : DT} {c : DB} {e : DE} {okS : Store → Bool} {σ : AE} : ∀ (l : List PV) (st : Store) {x : Str} {w : PV} {s : Store}, lcI t c e okS σ l st ≠ .exc x w s := by
  intro l
  induction l with
  | nil => intro st x w s h; unfold lcI at h; split at h <;> cases h
  | cons p r ih =>
    intro st x w s h
    unfold lcI at h
    split at h
    · cases q1 : t p σ st with
      | ok a st1 =>
        rw [q1] at h
        simp only [noX, Res.bind] at h
        cases q2 : c a st1 with
        | ok k st2 =>
          rw [q2] at h
          simp only [noX] at h
          split at h
          · cases q3 : e a st2 with
            | ok v st3 =>
              rw [q3] at h
              simp only [noX] at h
              split at h
              · cases h
              · rename_i q4; exact ih _ q4
              · cases h
            | exc _ _ _ => rw [q3] at h; cases h
            | fail => rw [q3] at h; cases h
          · exact ih _ h
        | exc _ _ _ => rw [q2] at h; cases h
        | fail => rw [q2] at h; cases h
      | exc _ _ _ => rw [q1] at h; cases h
      | fail => rw [q1] at h; cases h
    · cases h
/-- how a comprehension's list is given -/
structure LcEnd (G : DG) (E : XK) (m : List PV → M PV) : Prop where
  nox : ∀ vs st x w s, m vs st ≠ .exc x w s
  fit : ∀ vs st st' p, m vs st = .ok p st' → vs.length ≤ SZ
  fin : ∀ (Q : VK) (ρ1 ρ : List Addr) (H1 H : Hp) (D : Addr) (vs : List PV) (acc : List V) (st : Store), Mv G.T ρ1 H1 (G.T.add D) ρ H → H1 D = none → (∀ a, H a = none → H1 a = none) → (∀ a ∈ ρ, a ∈ ρ1 ∨ H1 a = none) → (∀ a ∈ G.T.res, H1 a ≠ none → H a = H1 a) → D ∉ G.T.res →
    RlS ⟨G.K, G.mg, G.T.add D⟩ ρ H st → H D = some (.lst acc) → RlAll ⟨G.K, G.mg, G.T.add D⟩ ρ H vs acc → Pst G E ρ1 H1 (KV G Q) (m vs st) → Q (.ref D) H
theorem mLst_end {G : DG} : LcEnd G E mLst := ⟨fun vs st x w s h => (by unfold mLst at h; split at h <;> cases h), (fun vs st st' p h => by
    unfold mLst at h
    split at h
    · assumption
    · cases h), fun Q ρ1 ρ H1 H D vs acc st mv hD fr nw rs hDr s hH ra h => by
  unfold mLst at h
  split at h
  · exact h ρ H ⟨mv.pre, fun a u r o t => (mv.keep a u r o t).1, nw, fr, mv.tups, rs⟩ (rls_out s) _ (.lst ⟨.inl hH, (s.res D List.mem_cons_self).2, hDr⟩ (ra.mv mv_out))
  · exact h.elim⟩
theorem mLstR_end {G : DG} : LcEnd G E mLstR := ⟨fun vs st x w s h => (by unfold mLstR at h; split at h <;> cases h), (fun vs st st' p h => by
    unfold mLstR at h
    split at h
    · assumption
    · cases h), fun Q ρ1 ρ H1 H D vs acc st mv hD fr nw rs hDr s hH ra h => by
  unfold mLstR at h
  split at h
  · exact h (ρ ++ [D]) H ⟨mv.pre.trans (List.prefix_append _ _), fun a u r o t => (mv.keep a u r o t).1, fun a ha => by
      rcases List.mem_append.mp ha with ha | ha
      · exact nw a ha
      · rw [List.mem_singleton.mp ha]; exact .inr hD, fr, mv.tups, rs⟩ (rls_outR s hH ra hDr) _ (.ref (by rw [← s.len]; simp))
  · exact h.elim⟩
/-- where the making of the list stands -/
def LcW (G : DG) (ρ1 : List Addr) (H1 : Hp) (D : Addr) (K : List PV → Store → Prop) (H : Hp) : Prop :=
  ∃ ρ st vs acc, Mv G.T ρ1 H1 (G.T.add D) ρ H ∧ (∀ a, H a = none → H1 a = none) ∧ (∀ a ∈ ρ, a ∈ ρ1 ∨ H1 a = none) ∧ (∀ a ∈ G.T.res, H1 a ≠ none → H a = H1 a) ∧ RlS ⟨G.K, G.mg, G.T.add D⟩ ρ H st ∧ H D = some (.lst acc) ∧ RlAll ⟨G.K, G.mg, G.T.add D⟩ ρ H vs acc ∧ K vs st
theorem LcW.start {K : List PV → Store → Prop} {G : DG} {ρ : List Addr} {H : Hp} {D : Addr} (s : RlS G ρ H st) (hD : H D = none) (k : K [] st) : LcW G ρ H D K (upd H D (.lst [])) :=
  ⟨ρ, st, [], [], mv_in hD, fun a z => by
    by_cases e : a = D
    · rw [e]; exact hD
    · rwa [upd_ne e] at z, fun a z => .inl z, fun a _ hn => upd_ne fun e => hn (by rw [e]; exact hD), rls_in s hD, upd_same, .nil, k⟩
/-- a step that leaves the list as it is -/
theorem LcW.still {K : List PV → Store → Prop} {G : DG} {ρ1 ρ ρ' : List Addr} {H1 H H' : Hp} {D : Addr} {vs : List PV} {acc : List V} {st' : Store} (hD : H1 D = none) (mv : Mv G.T ρ1 H1 (G.T.add D) ρ H) (fr : ∀ a, H a = none → H1 a = none) (nw : ∀ a ∈ ρ, a ∈ ρ1 ∨ H1 a = none) (rs : ∀ a ∈ G.T.res, H1 a ≠ none → H a = H1 a) (hH : H D = some (.lst acc)) (ra : RlAll ⟨G.K, G.mg, G.T.add D⟩ ρ H vs acc)
    (x : Ext (G.T.add D) ρ H ρ' H') (s : RlS ⟨G.K, G.mg, G.T.add D⟩ ρ' H' st') (k : K vs st') : LcW G ρ1 H1 D K H' :=
  ⟨ρ', st', vs, acc, mv.trans x.mv, fun a z => fr a (x.free a z), fun a ha => (x.new a ha).elim (nw a) fun z => .inr (fr a z), fun a ha hn => by
    have e := rs a ha hn
    rw [← e]
    exact x.rs a (List.mem_cons_of_mem _ ha) (by rw [e]; exact hn), s, by rw [x.rs D List.mem_cons_self (by rw [hH]; simp)]; exact hH, RlAll.ext (G := ⟨G.K, G.mg, G.T.add D⟩) x ra, k⟩
theorem lc_still {G : DG} {ρ1 ρ ρ' : List Addr} {H1 H H' : Hp} {D : Addr} {vs : List PV} {acc : List V} (mv : Mv G.T ρ1 H1 (G.T.add D) ρ H) (fr : ∀ a, H a = none → H1 a = none) (nw : ∀ a ∈ ρ, a ∈ ρ1 ∨ H1 a = none) (rs : ∀ a ∈ G.T.res, H1 a ≠ none → H a = H1 a) (hH : H D = some (.lst acc)) (ra : RlAll ⟨G.K, G.mg, G.T.add D⟩ ρ H vs acc)
    (x : Ext (G.T.add D) ρ H ρ' H') : Mv G.T ρ1 H1 (G.T.add D) ρ' H' ∧ (∀ a, H' a = none → H1 a = none) ∧ (∀ a ∈ ρ', a ∈ ρ1 ∨ H1 a = none) ∧ (∀ a ∈ G.T.res, H1 a ≠ none → H' a = H1 a) ∧ H' D = some (.lst acc) ∧ RlAll ⟨G.K, G.mg, G.T.add D⟩ ρ' H' vs acc :=
  ⟨mv.trans x.mv, fun a z => fr a (x.free a z), fun a ha => (x.new a ha).elim (nw a) fun z => .inr (fr a z), fun a ha hn => by
    have e := rs a ha hn
    rw [← e]
    exact x.rs a (List.mem_cons_of_mem _ ha) (by rw [e]; exact hn), by rw [x.rs D List.mem_cons_self (by rw [hH]; simp)]; exact hH, RlAll.ext (G := ⟨G.K, G.mg, G.T.add D⟩) x ra⟩
/-- an item more -/
theorem LcW.grow {K : List PV → Store → Prop} {G : DG} {ρ1 ρ : List Addr} {H1 H : Hp} {D : Addr} {vs : List PV} {acc : List V} {p : PV} {v : V} (hDr : D ∉ G.T.res) (mv : Mv G.T ρ1 H1 (G.T.add D) ρ H) (fr : ∀ a, H a = none → H1 a = none) (nw : ∀ a ∈ ρ, a ∈ ρ1 ∨ H1 a = none) (rs : ∀ a ∈ G.T.res, H1 a ≠ none → H a = H1 a)
    (s : RlS ⟨G.K, G.mg, G.T.add D⟩ ρ H st) (hH : H D = some (.lst acc)) (ra : RlAll ⟨G.K, G.mg, G.T.add D⟩ ρ H vs acc) (r : Rl ⟨G.K, G.mg, G.T.add D⟩ ρ H p v) (k : K (vs ++ [p]) st) : LcW G ρ1 H1 D K (upd H D (.lst (acc ++ [v]))) := by
  have g : Mv (G.T.add D) ρ H (G.T.add D) ρ (upd H D (.lst (acc ++ [v]))) := mv_grow hH trivial List.mem_cons_self
  refine ⟨ρ, st, vs ++ [p], acc ++ [v], mv.trans g, fun a z => fr a ?_, nw, fun a ha hn => ?_, rls_grow s hH trivial List.mem_cons_self, upd_same, (ra.append (.cons r .nil)).mv g, k⟩
  · by_cases e : a = D
    · rw [e, upd_same] at z; cases z
    · rwa [upd_ne e] at z
  · rw [upd_ne fun e => hDr (by rw [← e]; exact ha)]; exact rs a ha hn
theorem lc_read {m : List PV → M PV} {Q : VK} (hm : LcEnd (gOf X T) E m) (q : Tv (gOf X T) E (dCompL src t c e (own.map (·.2)) m) σ H Q) :
    tLc (Ti (gOf X T) E src) (anyG X T (own.map (·.2)) t) (anyB X T c) (anyV X T e) (own.map (·.2)) σ H Q := by
  obtain ⟨ρ, aσ, st, hE, hS, h⟩ := q
  refine ti_bind hE hS h fun ρ1 H1 r st1 J x1 s1 e1 wk h => ?_
  obtain ⟨l, ok⟩ := r
  intro D hD
  have hDr : D ∉ T.res := fun z => (s1.res D z).1 hD
  have hw : ∀ i st vs, Pst (gOf X T) E ρ1 H1 (KV (gOf X T) Q) ((lcI t c e ok (wipeA aσ (own.map (·.2))) (l.drop i) st).bind fun vs' st => m (vs ++ vs') st) → vs.length ≤ SZ := fun i st vs h => by
    cases q : lcI t c e ok (wipeA aσ (own.map (·.2))) (l.drop i) st with
    | ok vs' st' =>
      rw [q] at h
      cases q2 : m (vs ++ vs') st' with
      | ok p st2 => have := hm.fit _ _ _ _ q2; rw [List.length_append] at this; omega
      | exc _ _ _ => exact absurd q2 (hm.nox _ _ _ _ _)
      | fail => rw [show (Res.ok vs' st').bind _ = m (vs ++ vs') st' from rfl, q2] at h; exact h.elim
    | exc _ _ _ => exact absurd q (lcI_noexc _ _)
    | fail => rw [q] at h; exact h.elim
  refine ⟨fun i mm H => mm = l.length - i ∧ i ≤ l.length ∧ LcW (gOf X T) ρ1 H1 D (fun vs st => Pst (gOf X T) E ρ1 H1 (KV (gOf X T) Q) ((lcI t c e ok (wipeA aσ (own.map (·.2))) (l.drop i) st).bind fun vs' st => m (vs ++ vs') st)) H, ⟨l.length, by simp, Nat.zero_le _, .start s1 hD h⟩, ?_⟩
  rintro i mm H ⟨rfl, hil, ρ, st, vs, acc, mv, fr, nw, rs, s, hH, ra, h⟩
  by_cases hlt : i < l.length
  · rw [drop_some hlt] at h
    unfold lcI at h
    split at h
    · rename_i hok
      obtain ⟨h1, h2, h3⟩ := wk (T.add D) ρ H st mv s hok
      refine .inr ⟨h1 i hlt, LcW (gOf X T) ρ1 H1 D (fun vs st => Pst (gOf X T) E ρ1 H1 (KV (gOf X T) Q) ((lcI t c e ok (wipeA aσ (own.map (·.2))) (l.drop (i + 1)) st).bind fun vs' st => m (vs ++ vs') st)), fun H' z => ⟨l.length - (i + 1), by omega, rfl, hlt, z⟩, fun v H' y => ?_⟩
      obtain ⟨xx, ss, rr⟩ := h3 i v H' l[i] (List.getElem?_eq_getElem hlt) y
      rw [bind_bind] at h
      obtain ⟨aσ2, st2, et, h⟩ := pst_noX h
      rw [bind_bind] at h
      obtain ⟨k, st3, ec, h⟩ := pst_noX h
      have eE := (RlE.ext (G := gOf X (T.add D)) xx (RlE.mv (K := X.K) (mg := X.mg) mv e1)).wiped (own.map (·.2))
      refine ⟨D, ρ, _, st, l[i], eE, ss, rr, ?_⟩
      rw [et]
      intro ρ2 H2 x2 s2 σ' e2 w2
      refine ⟨w2.trans wipe_wipe, D, ρ2, aσ2, st2, e2, s2, ?_⟩
      rw [ec]
      intro ρ3 H3 x3 s3
      have e3 := RlE.ext (G := gOf X (T.add D)) x3 e2
      have x03 := (xx.trans x2).trans x3
      cases k with
      | false => exact ite_ff (LcW.still hD mv fr nw rs hH ra x03 s3 h)
      | true =>
        refine ite_tt ?_
        rw [if_pos rfl, bind_bind] at h
        obtain ⟨p, st4, ee, h⟩ := pst_noX h
        refine ⟨D, ρ3, aσ2, st3, e3, s3, ?_⟩
        rw [ee]
        intro ρ4 H4 x4 s4 v' rv
        have h' : Pst (gOf X T) E ρ1 H1 (KV (gOf X T) Q) ((lcI t c e ok (wipeA aσ (own.map (·.2))) (l.drop (i + 1)) st4).bind fun vs' st => m ((vs ++ [p]) ++ vs') st) := by
          rw [bind_bind] at h
          simpa [Res.bind, List.append_assoc] using h
        obtain ⟨mv5, fr5, nw5, rs5, hH5, ra5⟩ := lc_still mv fr nw rs hH ra (x03.trans x4)
        have hz := hw (i + 1) st4 (vs ++ [p]) h'
        refine ⟨acc, hH5, ?_, LcW.grow hDr mv5 fr5 nw5 rs5 s4 hH5 ra5 rv h'⟩
        rw [List.length_append, ra.length, List.length_singleton] at hz
        rw [SZ_eq]
        omega
    · exact h.elim
  · have ei : i = l.length := by omega
    subst ei
    rw [List.drop_length] at h
    unfold lcI at h
    split at h
    · rename_i hok
      obtain ⟨h1, h2, h3⟩ := wk (T.add D) ρ H st mv s hok
      refine .inl ⟨h2, hm.fin Q ρ1 ρ H1 H D vs acc st mv hD fr nw rs hDr s hH ra ?_⟩
      simpa [Res.bind] using h
    · exact h.elim

/-! ### the rules -/
theorem any_g {X' : Cx} {tg : Expr} {w : List Nat} (h : ∀ D, PG X' tg (Tgw (gOf X (T.add D)) E0' w t)) : PG X' tg (anyG X T w t) := ⟨fun pins s σ H v u Q I r ⟨D, q⟩ => (h D).run pins s σ H v u Q I r q⟩
theorem any_t {X' : Cx} (h : ∀ D, PTs X' ifs (Tb (gOf X (T.add D)) E0' c)) : PTs X' ifs (anyB X T c) := ⟨fun pins s σ H Q I ⟨D, q⟩ => (h D).run pins s σ H Q I q⟩
theorem any_v {X' : Cx} {e' : Expr} (h : ∀ D, PE X' e' (Tv (gOf X (T.add D)) E0' e)) : PE X' e' (anyV X T e) := ⟨fun pins s σ H Q I ⟨D, q⟩ => (h D).run pins s σ H Q I q⟩
theorem ev_lc {m : List PV → M PV} (hm : LcEnd (gOf X T) E m) (hc : X.calm = true) (hN : X.N.Nodup) (hi : EI X T E tg iter src) (ok : BlkOk X.N X.env.scope scope own)
    (hg : ∀ (D : Addr) (s : Shared) (H : Hp) (C : Addr) (cl : List (Str × Addr)) (fp : List Addr), EGw (X.blk s H scope (compEnvC scope cl C X.env) fp) (T.add D) E0' (own.map (·.2)) tg t)
    (ht : ∀ (D : Addr) (s : Shared) (H : Hp) (C : Addr) (cl : List (Str × Addr)) (fp : List Addr), testsOk (X.blk s H scope (compEnvC scope cl C X.env) fp) (T.add D) E0' ifs c)
    (he : ∀ (D : Addr) (s : Shared) (H : Hp) (C : Addr) (cl : List (Str × Addr)) (fp : List Addr), EV (X.blk s H scope (compEnvC scope cl C X.env) fp) (T.add D) E0' elt e) (hs : ∀ x, foldedSetIterable iter X.env x = pure x := by intro _; rfl) :
    EV X T E (.ListComp elt [⟨tg, iter, ifs, 0⟩] scope pos) (dCompL src t c e (own.map (·.2)) m) :=
  pe_imp (pe_lc hc hN hi ok (fun s H C cl fp => any_g fun D => hg D s H C cl fp) (fun s H C cl fp => any_t fun D => ht D s H C cl fp) (fun s H C cl fp => any_v fun D => he D s H C cl fp) hs) fun σ H Q q => lc_read hm q
/-- y = [..] on one line -/
theorem es_setLc {m : List PV → M PV} {i : Nat} {y : Str} {py spos : Pos} (hm : LcEnd (gOf X T) E m) (hc : X.calm = true) (hN : X.N.Nodup) (hy : X.N[i]? = some y) (hyl : X.env.scope.names.lookup y = some .local)
    (hsw : swapsWith (.ListComp elt [⟨tg, iter, ifs, 0⟩] scope pos) (some (.Name y py)) spos.line X.env = pure true) (hi : EI X T E tg iter src) (ok : BlkOk X.N X.env.scope scope own)
    (hg : ∀ (D : Addr) (s : Shared) (H : Hp) (C : Addr) (cl : List (Str × Addr)) (fp : List Addr), EGw (X.blk s H scope (compEnvC scope cl C X.env) fp) (T.add D) E0' (own.map (·.2)) tg t)
    (ht : ∀ (D : Addr) (s : Shared) (H : Hp) (C : Addr) (cl : List (Str × Addr)) (fp : List Addr), testsOk (X.blk s H scope (compEnvC scope cl C X.env) fp) (T.add D) E0' ifs c)
    (he : ∀ (D : Addr) (s : Shared) (H : Hp) (C : Addr) (cl : List (Str × Addr)) (fp : List Addr), EV (X.blk s H scope (compEnvC scope cl C X.env) fp) (T.add D) E0' elt e) (hs : ∀ x, foldedSetIterable iter X.env x = pure x := by intro _; rfl) :
    ES X T E (.Assign [.Name y py] (.ListComp elt [⟨tg, iter, ifs, 0⟩] scope pos) spos) (sAsg (dCompL src t c e (own.map (·.2)) m) (tName i)) :=
  ps_imp (ps_setLc hc hN hy hyl hsw hi ok (fun s H C cl fp => any_g fun D => hg D s H C cl fp) (fun s H C cl fp => any_t fun D => ht D s H C cl fp) (fun s H C cl fp => any_v fun D => he D s H C cl fp) hs) fun D σ H q => by
  obtain ⟨ρ, aσ, st, hE, hS, h⟩ := q
  refine lc_read (Q := fun x H1 => D.nx (σ.set i (some x)) H1) hm ⟨ρ, aσ, st, hE, hS, h.bind.imp fun p st1 ρ1 H1 _ _ z v r => ?_⟩
  exact z.2.2.ret z.2.1 _ ((hE.ext z.1).set r)
end
end DN
set_option Elab.async false
set_option linter.all false
set_option maxRecDepth 100000
set_option maxHeartbeats 2000000
/-! DnFun: what a def computes; what it made by itself is let go at its end; its call. -/
namespace DN
open PySem PySem.Spec PyProof.Rows L2

/-! ### letting go -/
mutual
def mapV (g : Nat → Option PV) : PV → Option PV
  | .tup l => (mapVs g l).map .tup
  | .lst l => (mapVs g l).map .lst
  | .dK ks vs => (mapVs g vs).map (.dK ks)
  | .dT ks vs => (mapVs g vs).map (.dT ks)
  | .ref n => g n
  | .non => some .non
  | .bl b => some (.bl b)
  | .int i => some (.int i)
  | .str x => some (.str x)
  | .con x => some (.con x)
  | .ty n => some (.ty n)
  | .scr l => (mapVs g l).map .scr
def mapVs (g : Nat → Option PV) : List PV → Option (List PV)
  | [] => some []
  | p :: ps => (mapV g p).bind fun q => (mapVs g ps).map fun qs => q :: qs
end
/-- the n-th object as a value that nobody changes any more, if it is none of the first k -/
def clipR (k : Nat) (st : Store) : Nat → Nat → Option PV
  | 0, n => if n < k then some (.ref n) else none
  | f + 1, n => if n < k then some (.ref n) else match st[n]? with
    | some (.lst l) => (mapVs (clipR k st f) l).map .lst
    | some (.dK es) => (mapVs (clipR k st f) (es.map (·.2))).map (.dK (es.map (·.1)))
    | some (.dT es) => (mapVs (clipR k st f) (es.map (·.2))).map (.dT (es.map (·.1)))
    | _ => none
def clip (k : Nat) (st : Store) (p : PV) : Option PV := mapV (clipR k st 6) p
def clipO (k : Nat) (st : Store) : SO → Option SO
  | .lst l => (mapVs (clipR k st 6) l).map .lst
  | .dK es => (mapVs (clipR k st 6) (es.map (·.2))).map fun vs => .dK ((es.map (·.1)).zip vs)
  | .dT es => (mapVs (clipR k st 6) (es.map (·.2))).map fun vs => .dT ((es.map (·.1)).zip vs)
  | .ins C fs => (mapVs (clipR k st 6) (fs.map (·.2))).map fun vs => .ins C ((fs.map (·.1)).zip vs)
open Classical in
noncomputable def gcO (k : Nat) (st : Store) (o o' : SO) : Option SO := if o = o' then some o else clipO k st o'
noncomputable def gcS (k : Nat) (st : Store) : List SO → List SO → Option (List SO)
  | [], _ => some []
  | o :: r, o' :: r' => (gcO k st o o').bind fun x => (gcS k st r r').map (x :: ·)
  | _, [] => none
noncomputable def gcR (st : Store) (r : Res PV) : Res PV := match r with
  | .ok v st' => (match clip st.length st' v, gcS st.length st' st st' with
    | some v, some s => .ok v s
    | _, _ => .fail)
  | .exc c v st' => (match clip st.length st' v, gcS st.length st' st st' with
    | some v, some s => .exc c v s
    | _, _ => .fail)
  | .fail => .fail

section
variable {G : DG} {E : XK} {ρ ρ' : List Addr} {H H' : Hp} {st st' : Store}
theorem mapVs_len {g : Nat → Option PV} : ∀ {l l' : List PV}, mapVs g l = some l' → l'.length = l.length
  | [], l', h => by simp only [mapVs, Option.some.injEq] at h; subst h; rfl
  | p :: ps, l', h => by
    simp only [mapVs] at h
    obtain ⟨q, e1, h⟩ := Option.bind_eq_some_iff.mp h
    obtain ⟨qs, e2, rfl⟩ := Option.map_eq_some_iff.mp h
    simp [mapVs_len e2]
theorem out_pre {T : TR} (pre : ρ <+: ρ') {a : Addr} (o : Out T ρ' a) : Out T ρ a := ⟨fun h => o.1 (pre.subset h), o.2⟩
theorem isW_map {g : Nat → Option PV} {l l' : List PV} (w : isW l = true) (h : mapVs g l = some l') : isW l' = true := by
  unfold isW at w
  split at w
  · simp only [mapVs, mapV, Option.bind_some, Option.map_some, Option.some.injEq] at h
    subst h
    exact w
  · simp only [mapVs, mapV, Option.bind_some, Option.map_some, Option.some.injEq] at h
    subst h
    exact w
  · rename_i x y z r
    simp only [mapVs, mapV, Option.bind_some, Option.map_some] at h
    cases e : mapVs g r with
    | none => rw [e] at h; cases h
    | some r' =>
      rw [e] at h
      simp only [Option.map_some, Option.some.injEq] at h
      subst h
      cases r' <;> rfl
  · cases w
/-- it gives what is no scalar, no tuple -/
def NoTup (g : Nat → Option PV) : Prop := ∀ n p, g n = some p → match p with
  | .ref _ => True
  | .lst _ => True
  | .dK _ _ => True
  | .dT _ _ => True
  | _ => False
theorem mapV_str {g : Nat → Option PV} (hn : NoTup g) {p : PV} {x : Str} (h : mapV g p = some (.str x)) : p = .str x := by
  cases p with
  | ref n => exact False.elim (hn n _ (by simpa only [mapV] using h))
  | str y => simpa [mapV] using h
  | tup l => simp [mapV] at h
  | lst l => simp [mapV] at h
  | scr l => simp [mapV] at h
  | dK _ l => simp [mapV] at h
  | dT _ l => simp [mapV] at h
  | _ => simp [mapV] at h
theorem mapV_int {g : Nat → Option PV} (hn : NoTup g) {p : PV} {x : Int} (h : mapV g p = some (.int x)) : p = .int x := by
  cases p with
  | ref n => exact False.elim (hn n _ (by simpa only [mapV] using h))
  | int y => simpa [mapV] using h
  | tup l => simp [mapV] at h
  | lst l => simp [mapV] at h
  | scr l => simp [mapV] at h
  | dK _ l => simp [mapV] at h
  | dT _ l => simp [mapV] at h
  | _ => simp [mapV] at h
theorem mapVs_cons {g : Nat → Option PV} {l : List PV} {q : PV} {qs : List PV} (h : mapVs g l = some (q :: qs)) : ∃ p ps, l = p :: ps ∧ mapV g p = some q ∧ mapVs g ps = some qs := by
  cases l with
  | nil => simp [mapVs] at h
  | cons p ps =>
    simp only [mapVs] at h
    obtain ⟨q', e1, h⟩ := Option.bind_eq_some_iff.mp h
    obtain ⟨qs', e2, h⟩ := Option.map_eq_some_iff.mp h
    cases h
    exact ⟨p, ps, rfl, e1, e2⟩
theorem mapVs_nil {g : Nat → Option PV} {l : List PV} (h : mapVs g l = some []) : l = [] := by
  cases l with
  | nil => rfl
  | cons p ps =>
    simp only [mapVs] at h
    obtain ⟨q', e1, h⟩ := Option.bind_eq_some_iff.mp h
    obtain ⟨qs', e2, h⟩ := Option.map_eq_some_iff.mp h
    cases h
theorem mapV_apart {g : Nat → Option PV} (hn : NoTup g) {p : PV} {x : Str} (h : mapV g p = some (.tup [.str x, .int 0])) : p = .tup [.str x, .int 0] := by
  cases p with
  | tup l =>
    simp only [mapV] at h
    obtain ⟨l', e, e2⟩ := Option.map_eq_some_iff.mp h
    cases e2
    obtain ⟨p1, r, rfl, h1, e⟩ := mapVs_cons e
    obtain ⟨p2, r, rfl, h2, e⟩ := mapVs_cons e
    cases mapVs_nil e
    rw [mapV_str hn h1, mapV_int hn h2]
  | ref n => exact False.elim (hn n _ (by simpa only [mapV] using h))
  | lst l => simp [mapV] at h
  | scr l => simp [mapV] at h
  | dK _ l => simp [mapV] at h
  | dT _ l => simp [mapV] at h
  | _ => simp [mapV] at h
theorem isF_apart (x : Str) : ∀ l : List PV, isF (.tup [.str x, .int 0] :: l) = decide (x = ("apart" : Str)) := fun _ => rfl
theorem isF_some {l : List PV} (h : isF l = true) : ∃ x r, l = .tup [.str x, .int 0] :: r := by
  unfold isF at h
  split at h
  · exact ⟨_, _, rfl⟩
  · cases h
theorem isF_map {g : Nat → Option PV} (hn : NoTup g) {l l' : List PV} (h : mapVs g l = some l') : isF l' = isF l := by
  rw [Bool.eq_iff_iff]
  constructor
  · intro w
    obtain ⟨x, r, rfl⟩ := isF_some w
    obtain ⟨p, ps, rfl, h1, h2⟩ := mapVs_cons h
    rw [mapV_apart hn h1]
    exact w
  · intro w
    obtain ⟨x, r, rfl⟩ := isF_some w
    simp only [mapVs, mapV, Option.bind_some, Option.map_some] at h
    obtain ⟨qs, _, h⟩ := Option.map_eq_some_iff.mp h
    cases h
    exact w
mutual
theorem mapV_rl {g : Nat → Option PV} (pre : ρ <+: ρ') (hn : NoTup g) (hg : ∀ n q a, g n = some q → ρ'[n]? = some a → Rl G ρ H q (.ref a)) : ∀ (p : PV) {q : PV} {v : V}, mapV g p = some q → Rl G ρ' H p v → Rl G ρ H q v
  | .tup l, q, v, h, r => by
    simp only [mapV] at h
    obtain ⟨l', e, rfl⟩ := Option.map_eq_some_iff.mp h
    cases r with
    | tup q ra =>
      have ra' := mapVs_rl pre hn hg l e ra
      refine .tup (xs := _) ?_ ra'
      rcases q with q | ⟨q1, q2⟩
      · refine .inl ?_
        rw [isF_map hn e]
        exact q
      · exact .inr ⟨isW_map q1 e, q2⟩
  | .lst l, q, v, h, r => by
    simp only [mapV] at h
    obtain ⟨l', e, rfl⟩ := Option.map_eq_some_iff.mp h
    cases r with
    | lst q ra => exact .lst ⟨q.1, out_pre pre q.2⟩ (mapVs_rl pre hn hg l e ra)
  | .scr l, q, v, h, r => by
    simp only [mapV] at h
    obtain ⟨l', e, rfl⟩ := Option.map_eq_some_iff.mp h
    cases r with
    | scr q ra => exact .scr (q.imp (fun q => ⟨q.1, out_pre pre q.2⟩) id) (mapVs_rl pre hn hg l e ra)
  | .dK ks vs, q, v, h, r => by
    simp only [mapV] at h
    obtain ⟨l', e, rfl⟩ := Option.map_eq_some_iff.mp h
    cases r with
    | dK h n k ra => exact .dK h (out_pre pre n) k (mapVs_rl pre hn hg vs e ra)
  | .dT ks vs, q, v, h, r => by
    simp only [mapV] at h
    obtain ⟨l', e, rfl⟩ := Option.map_eq_some_iff.mp h
    cases r with
    | dT h n k ra => exact .dT h (out_pre pre n) k (mapVs_rl pre hn hg vs e ra)
  | .ref n, q, v, h, r => by
    simp only [mapV] at h
    cases r with
    | ref e => exact hg n q _ h e
  | .non, q, v, h, r => by simp only [mapV, Option.some.injEq] at h; subst h; cases r; exact .non
  | .bl b, q, v, h, r => by simp only [mapV, Option.some.injEq] at h; subst h; cases r; exact .bl b
  | .int b, q, v, h, r => by simp only [mapV, Option.some.injEq] at h; subst h; cases r; exact .int b
  | .str b, q, v, h, r => by simp only [mapV, Option.some.injEq] at h; subst h; cases r; exact .str b
  | .con b, q, v, h, r => by
    simp only [mapV, Option.some.injEq] at h; subst h
    cases r with
    | con e => exact .con e
  | .ty b, q, v, h, r => by simp only [mapV, Option.some.injEq] at h; subst h; cases r; exact .ty b
theorem mapVs_rl {g : Nat → Option PV} (pre : ρ <+: ρ') (hn : NoTup g) (hg : ∀ n q a, g n = some q → ρ'[n]? = some a → Rl G ρ H q (.ref a)) : ∀ (ps : List PV) {qs : List PV} {vs : List V}, mapVs g ps = some qs → RlAll G ρ' H ps vs → RlAll G ρ H qs vs
  | [], qs, vs, h, r => by simp only [mapVs, Option.some.injEq] at h; subst h; cases r; exact .nil
  | p :: ps, qs, vs, h, r => by
    simp only [mapVs] at h
    obtain ⟨q, e1, h⟩ := Option.bind_eq_some_iff.mp h
    obtain ⟨qs', e2, rfl⟩ := Option.map_eq_some_iff.mp h
    cases r with
    | cons r1 r2 => exact .cons (mapV_rl pre hn hg p e1 r1) (mapVs_rl pre hn hg ps e2 r2)
end
/-- what is there at the entry names but what is there at the entry -/
def idLt (k : Nat) (n : Nat) : Option PV := if n < k then some (.ref n) else none
mutual
theorem idLt_rl : ∀ (p : PV) {v : V}, Rl G ρ H p v → mapV (idLt ρ.length) p = some p
  | .tup l, v, r => by
    cases r with
    | tup q ra => simp only [mapV, idLt_rls l ra, Option.map_some]
  | .lst l, v, r => by
    cases r with
    | lst q ra => simp only [mapV, idLt_rls l ra, Option.map_some]
  | .scr l, v, r => by
    cases r with
    | scr q ra => simp only [mapV, idLt_rls l ra, Option.map_some]
  | .dK ks vs, v, r => by
    cases r with
    | dK h n k ra => simp only [mapV, idLt_rls vs ra, Option.map_some]
  | .dT ks vs, v, r => by
    cases r with
    | dT h n k ra => simp only [mapV, idLt_rls vs ra, Option.map_some]
  | .ref n, v, r => by
    cases r with
    | ref e =>
      have hn := (List.getElem?_eq_some_iff.mp e).1
      simp only [mapV, idLt, if_pos hn]
  | .non, v, r => by simp only [mapV]
  | .bl b, v, r => by simp only [mapV]
  | .int b, v, r => by simp only [mapV]
  | .str b, v, r => by simp only [mapV]
  | .con b, v, r => by simp only [mapV]
  | .ty b, v, r => by simp only [mapV]
theorem idLt_rls : ∀ (ps : List PV) {vs : List V}, RlAll G ρ H ps vs → mapVs (idLt ρ.length) ps = some ps
  | [], vs, r => by simp only [mapVs]
  | p :: ps, vs, r => by
    cases r with
    | cons r1 r2 => simp only [mapVs, idLt_rl p r1, idLt_rls ps r2, Option.bind_some, Option.map_some]
end
theorem idLt_no {k : Nat} : NoTup (idLt k) := fun n p h => by
  unfold idLt at h
  split at h
  · cases h; trivial
  · cases h
theorem clipR_no {k : Nat} {st : Store} : ∀ f, NoTup (clipR k st f) := by
  intro f n p h
  cases f with
  | zero =>
    unfold clipR at h
    split at h
    · cases h; trivial
    · cases h
  | succ f =>
    unfold clipR at h
    split at h
    · cases h; trivial
    · split at h
      · obtain ⟨_, _, e⟩ := Option.map_eq_some_iff.mp h; cases e; trivial
      · obtain ⟨_, _, e⟩ := Option.map_eq_some_iff.mp h; cases e; trivial
      · obtain ⟨_, _, e⟩ := Option.map_eq_some_iff.mp h; cases e; trivial
      · cases h
theorem idLt_ok (pre : ρ <+: ρ') : ∀ n q a, idLt ρ.length n = some q → ρ'[n]? = some a → Rl G ρ H q (.ref a) := fun n q a h e => by
  unfold idLt at h
  split at h
  · rename_i hn
    cases h
    obtain ⟨t, rfl⟩ := pre
    rw [List.getElem?_append_left hn] at e
    exact .ref e
  · cases h
theorem shrink_all {ps : List PV} {ws vs : List V} (pre : ρ <+: ρ') (r0 : RlAll G ρ H ps ws) (r : RlAll G ρ' H' ps vs) : RlAll G ρ H' ps vs :=
  mapVs_rl pre idLt_no (idLt_ok pre) ps (idLt_rls ps r0) r
theorem clipR_rl (pre : ρ <+: ρ') (hS : RlS G ρ' H st') : ∀ (f n : Nat) (q : PV) (a : Addr), clipR ρ.length st' f n = some q → ρ'[n]? = some a → Rl G ρ H q (.ref a) := by
  intro f
  induction f with
  | zero =>
    intro n q a h e
    exact idLt_ok pre n q a h e
  | succ f ih =>
    intro n q a h e
    unfold clipR at h
    split at h
    · rename_i hn
      exact idLt_ok pre n q a (by rw [← h]; simp [idLt, hn]) e
    · rename_i hn
      have out : Out G.T ρ a := ⟨fun hm => by
        obtain ⟨m, hm1, hm2⟩ := List.mem_iff_getElem.mp hm
        obtain ⟨t, rfl⟩ := pre
        have e1 : (ρ ++ t)[m]? = some a := by rw [List.getElem?_append_left hm1, List.getElem?_eq_getElem hm1, hm2]
        exact hS.ne e1 e (fun z => hn (z ▸ hm1)) rfl, fun hm => (hS.res a hm).2 (List.mem_of_getElem? e)⟩
      split at h
      · rename_i l es
        obtain ⟨l', e1, rfl⟩ := Option.map_eq_some_iff.mp h
        cases hS.ref e es with
        | lst hh ra => exact .lst ⟨.inl hh, out⟩ (mapVs_rl pre (clipR_no _) ih l e1 ra)
      · rename_i es e2
        obtain ⟨l', e1, rfl⟩ := Option.map_eq_some_iff.mp h
        cases hS.ref e e2 with
        | dK hh hk ra => exact .dK (.inl hh) out hk (mapVs_rl pre (clipR_no _) ih _ e1 ra)
      · rename_i es e2
        obtain ⟨l', e1, rfl⟩ := Option.map_eq_some_iff.mp h
        cases hS.ref e e2 with
        | dT hh hk ra => exact .dT (.inl hh) out hk (mapVs_rl pre (clipR_no _) ih _ e1 ra)
      · cases h
theorem zip_snd {κ : Type} : ∀ (es : List (κ × PV)) (vs : List PV), vs.length = (es.map (·.2)).length → ((es.map (·.1)).zip vs).map (·.1) = es.map (·.1) ∧ ((es.map (·.1)).zip vs).map (·.2) = vs := fun es vs h => by
  have := zip_fst (es.map (·.1)) vs (by rw [h]; simp)
  exact this
theorem clipO_rl (pre : ρ <+: ρ') (hS : RlS G ρ' H st') {o o' : SO} {a : Addr} (h : clipO ρ.length st' o = some o') (r : RlO G ρ' H o a) : RlO G ρ H o' a := by
  cases r with
  | lst hh ra =>
    obtain ⟨l', e1, rfl⟩ := Option.map_eq_some_iff.mp h
    exact .lst hh (mapVs_rl pre (clipR_no 6) (clipR_rl pre hS 6) _ e1 ra)
  | dK hh hk ra =>
    obtain ⟨l', e1, rfl⟩ := Option.map_eq_some_iff.mp h
    obtain ⟨z1, z2⟩ := zip_snd _ l' (mapVs_len e1)
    exact .dK hh (by rw [z1]; exact hk) (by rw [z2]; exact mapVs_rl pre (clipR_no 6) (clipR_rl pre hS 6) _ e1 ra)
  | dT hh hk ra =>
    obtain ⟨l', e1, rfl⟩ := Option.map_eq_some_iff.mp h
    obtain ⟨z1, z2⟩ := zip_snd _ l' (mapVs_len e1)
    exact .dT hh (by rw [z1]; exact hk) (by rw [z2]; exact mapVs_rl pre (clipR_no 6) (clipR_rl pre hS 6) _ e1 ra)
  | ins hc hh hk ra =>
    obtain ⟨l', e1, rfl⟩ := Option.map_eq_some_iff.mp h
    obtain ⟨z1, z2⟩ := zip_snd _ l' (mapVs_len e1)
    exact .ins hc hh (by rw [z1]; exact hk) (by rw [z2]; exact mapVs_rl pre (clipR_no 6) (clipR_rl pre hS 6) _ e1 ra)
theorem gcS_at {k : Nat} : ∀ {l l' s : List SO}, gcS k st' l l' = some s → s.length = l.length ∧ ∀ (n : Nat) (o : SO), s[n]? = some o → ∃ o1 o2, l[n]? = some o1 ∧ l'[n]? = some o2 ∧ gcO k st' o1 o2 = some o
  | [], l', s, h => by simp only [gcS, Option.some.injEq] at h; subst h; exact ⟨rfl, fun n o h => by simp at h⟩
  | o :: r, [], s, h => by simp [gcS] at h
  | o :: r, o' :: r', s, h => by
    simp only [gcS] at h
    obtain ⟨x, e1, h⟩ := Option.bind_eq_some_iff.mp h
    obtain ⟨s', e2, rfl⟩ := Option.map_eq_some_iff.mp h
    obtain ⟨h1, h2⟩ := gcS_at e2
    refine ⟨by simp [h1], fun n u hn => ?_⟩
    cases n with
    | zero => simp at hn; subst hn; exact ⟨o, o', rfl, rfl, e1⟩
    | succ n => exact h2 n u (by simpa using hn)
theorem gcS_rl {s : Store} (hS : RlS G ρ H st) (x : Ext G.T ρ H ρ' H') (hS' : RlS G ρ' H' st') (h : gcS st.length st' st st' = some s) : RlS G ρ H' s := by
  obtain ⟨hl, ha⟩ := gcS_at h
  refine ⟨by rw [hl]; exact hS.len, hS.nd, fun n o a h1 h2 => ?_, hS'.tabs, fun a hm => ⟨(hS'.res a hm).1, fun z => (hS'.res a hm).2 (x.pre.subset z)⟩⟩
  obtain ⟨o1, o2, e1, e2, e3⟩ := ha n o h1
  have h3 : ρ'[n]? = some a := by
    obtain ⟨t, et⟩ := x.pre
    rw [← et, List.getElem?_append_left (List.getElem?_eq_some_iff.mp h2).1]
    exact h2
  have r' := hS'.ref h3 e2
  unfold gcO at e3
  split at e3
  · rename_i eo
    subst eo
    cases e3
    have r0 := hS.ref h2 e1
    cases r0 with
    | lst hh ra =>
      cases r' with
      | lst hh' ra' => exact .lst hh' (shrink_all x.pre ra ra')
    | dK hh hk ra =>
      cases r' with
      | dK hh' hk' ra' => exact .dK hh' hk' (shrink_all x.pre ra ra')
    | dT hh hk ra =>
      cases r' with
      | dT hh' hk' ra' => exact .dT hh' hk' (shrink_all x.pre ra ra')
    | ins hc hh hk ra =>
      cases r' with
      | ins hc' hh' hk' ra' => exact .ins hc' hh' hk' (shrink_all x.pre ra ra')
  · rw [← hS.len] at e3
    exact clipO_rl x.pre hS' e3 r'
theorem Ext.short (x : Ext G.T ρ H ρ' H') : Ext G.T ρ H ρ H' := ⟨List.prefix_refl _, x.keep, fun _ h => .inl h, x.free, x.tups, x.rs⟩
theorem gc_ok {Q : VK} {r : Res PV} (hS : RlS G ρ H st) (h : Pst G E ρ H (KV G Q) (gcR st r)) : Pst G E ρ H (KV G Q) r := by
  cases r with
  | ok p st' =>
    unfold gcR at h
    dsimp only at h
    split at h
    · rename_i v s e1 e2
      intro ρ' H' x s' u r
      refine h ρ H' x.short (gcS_rl hS x s' e2) u ?_
      rw [← hS.len] at e1
      exact mapV_rl x.pre (clipR_no 6) (clipR_rl x.pre s' 6) p e1 r
    · exact h.elim
  | exc c p st' =>
    unfold gcR at h
    dsimp only at h
    split at h
    · rename_i v s e1 e2
      intro ρ' H' ca d u x s' hc hd hn r
      refine h ρ H' ca d u x.short (gcS_rl hS x s' e2) hc hd (fun z => hn (x.pre.subset z)) ?_
      rw [← hS.len] at e1
      exact mapV_rl x.pre (clipR_no 6) (clipR_rl x.pre s' 6) p e1 r
    · exact h.elim
  | fail => exact h
end

/-! ### defs -/
/-- a def of n parameters, m names; its objects stay -/
def dFnK (n m : Nat) (f : DS) (ps : List PV) : M PV := fun st => if ps.length = n then (f (ps.map some ++ List.replicate (m - n) none) st).bind fun r st' => match r.1 with
  | .rt v => .ok v st'
  | .nx => .ok .non st'
  | _ => .fail
  else .fail
/-- its objects are let go -/
noncomputable def dFn (n m : Nat) (f : DS) (ps : List PV) : M PV := fun st => gcR st (dFnK n m f ps st)
/-- the promise -/
def spD (K : PySem.W.Frag) (mg : Str → Option Value) (n : Nat) (d : List PV → M PV) : Sp := fun vs H Q E => ∃ (T : TR) (ρ : List Addr) (ps : List PV) (st : Store), RlS ⟨K, mg, T⟩ ρ H st ∧ RlAll ⟨K, mg, T⟩ ρ H ps vs ∧ ps.length = n ∧ Pst ⟨K, mg, T⟩ E ρ H (KV ⟨K, mg, T⟩ Q) (d ps st)
structure FnD (P : Program) (w : World) (K : PySem.W.Frag) (mg : Str → Option Value) (base : Heap) (k : Nat) (f : Addr) (fd : FuncData) (ps : List Str) (d : List PV → M PV) : Prop where
  ok : FnOk P w K mg base (CX P w) k f fd ps (spD K mg ps.length d)
  ar : ∀ qs st, d qs st ≠ .fail → qs.length = ps.length
section
variable {P : Program} {w : World} {K : PySem.W.Frag} {mg : Str → Option Value} {base : Heap} {x qual : Str} {params : Arguments} {body : List Stmt} {scope : Scope} {f : Addr} {fd : FuncData} {N ps : List Str} {k : Nat} {g : DS}
theorem rlE_start {G : DG} {ρ : List Addr} {H : Hp} {qs : List PV} {vs : List V} (r : RlAll G ρ H qs vs) (hn : qs.length = ps.length) : RlE G ρ H (qs.map some ++ List.replicate (N.length - ps.length) none) (L2.start N vs) := by
  have hl := r.length
  refine ⟨by simp [L2.start, hl, ← hn], fun i p h => ?_⟩
  unfold L2.start
  by_cases hi : i < qs.length
  · rw [List.getElem?_append_left (by simpa using hi), List.getElem?_map] at h
    obtain ⟨q, e, e2⟩ := Option.map_eq_some_iff.mp h
    cases e2
    obtain ⟨v, e3, r3⟩ := r.get e
    exact ⟨v, by rw [List.getElem?_append_left (by rw [List.length_map, ← hl]; exact hi), List.getElem?_map, e3]; rfl, r3⟩
  · rw [List.getElem?_append_right (by simpa using hi), List.getElem?_replicate] at h
    split at h <;> cases h
theorem fn_okK {dv : List V} {kw : List (Str × V)} (F : FunD K x qual params body scope dv kw f fd) (S : FnScope N ps scope)
    (hb : ∀ (T : TR) (cdv : Value) (A : Around) (outer : List Env) (s : Shared) (H : Hp) (E : XK), Room k (A.deeper (envOfC qual scope s.heap.objs.size f cdv)) → ESs (cxOf (CX P w) P w K mg base N qual scope f cdv A outer s H E) T E body g) :
    FnD P w K mg base (k + 1) f fd ps (dFnK ps.length N.length g) :=
  ⟨F.ok S (fun vs H Q E ⟨T, ρ, qs, st, _, r, hn, _⟩ => by rw [← r.length, hn]) fun cdv A outer s H vs Q E hr ⟨T, ρ, qs, st, hS, r, hn, h⟩ => by
    refine ⟨_, hb T cdv A outer s H E hr, ρ, _, st, rlE_start (ps := ps) r hn, hS, ?_⟩
    unfold dFnK at h
    rw [if_pos hn] at h
    refine h.bind.imp fun r' st' ρ' H' _ _ z σ' e' => ?_
    obtain ⟨fl, a'⟩ := r'
    cases fl with
    | nx => exact z.2.2.ret z.2.1 _ .non
    | bk => exact z.2.2.elim
    | ct => exact z.2.2.elim
    | rt v => exact fun u ru => z.2.2.ret z.2.1 u ru, fun qs st h => by
    unfold dFnK at h
    split at h
    · assumption
    · exact (h rfl).elim⟩
theorem fn_ok {dv : List V} {kw : List (Str × V)} (F : FunD K x qual params body scope dv kw f fd) (S : FnScope N ps scope)
    (hb : ∀ (T : TR) (cdv : Value) (A : Around) (outer : List Env) (s : Shared) (H : Hp) (E : XK), Room k (A.deeper (envOfC qual scope s.heap.objs.size f cdv)) → ESs (cxOf (CX P w) P w K mg base N qual scope f cdv A outer s H E) T E body g) :
    FnD P w K mg base (k + 1) f fd ps (dFn ps.length N.length g) :=
  ⟨(fn_okK F S hb).ok.imp fun vs H Q E ⟨T, ρ, qs, st, hS, r, hn, h⟩ => ⟨T, ρ, qs, st, hS, r, hn, gc_ok hS h⟩, fun qs st h => (fn_okK F S hb).ar qs st fun e => h (by unfold dFn; rw [e]; rfl)⟩
end

/-! ### the call of a def -/
section
variable {X : Cx} {T : TR} {E : XK} {x : Str} {f : Addr} {fd : FuncData} {ps : List Str} {k : Nat} {d : List PV → M PV} {e : Expr} {es : List Expr} {fs : DA} {p pos : Pos}
abbrev Lets (X : Cx) (E : XK) : Prop := Passes (CX X.prog X.w) X E
theorem lets_never : Lets X E0' := fun _ _ _ _ _ _ _ ⟨_, _, _, _, _, _, _, _, _, _, _, _, h⟩ => h.elim
theorem lets_def (tk : Takes X fun cls d _ H => E cls d H) : Lets X E := passes_call tk fun _ _ _ _ h => h
abbrev FnX (X : Cx) (k : Nat) (f : Addr) (fd : FuncData) (ps : List Str) (d : List PV → M PV) : Prop := FnD X.prog X.w X.K X.mg X.base k f fd ps d
theorem ev_call (F : FnX X k f fd ps d) (hr : Room k X.A) (hg : Gl X x) (hm : X.mg x = some (.ref f)) (hk : PySem.W.keepIn X.K (.ref f) = true) (hb : Binds X.K fd ps []) (hx : Lets X E) (ha : EA X T E (e :: es) fs) 
    (hdb : (x == ("__debug__" : Str)) = false := by decide) (he : starEach (e :: es) X.env = (false, eval e X.env) :: starEach es X.env := by rfl) (hpl : (backTo pos (starEach es X.env)).any (·.1) = false := by rfl) :
    EV X T E (.Call (.Name x p) (e :: es) [] pos) (dAl d fs) :=
  pe_imp (pe_call F.ok hr hg hm hk hb .nil hx ha hdb he hpl) fun σ H Q q => by
  obtain ⟨ρ, aσ, st, hE, hS, h⟩ := q
  refine ta_bind hE hS h fun ρ1 H1 xs vs st1 _ s1 _ r h => ?_
  rw [List.append_nil]
  exact ⟨T, ρ1, xs, st1, s1, r, F.ar xs st1 fun e => by rw [e] at h; exact h, h⟩
theorem ev_call0 (F : FnX X k f fd ps d) (hr : Room k X.A) (hg : Gl X x) (hm : X.mg x = some (.ref f)) (hk : PySem.W.keepIn X.K (.ref f) = true) (hb : Binds X.K fd ps []) (hx : Lets X E) (hdb : (x == ("__debug__" : Str)) = false := by decide) :
    EV X T E (.Call (.Name x p) [] [] pos) (dAl d dA0) :=
  pe_imp (pe_call0 F.ok hr hg hm hk hb .nil hx hdb) fun σ H Q q => by
  obtain ⟨ρ, aσ, st, hE, hS, h⟩ := q
  have h : Pst (gOf X T) E ρ H (KV (gOf X T) Q) (d [] st) := h
  exact ⟨T, ρ, [], st, hS, .nil, F.ar [] st fun e => by rw [e] at h; exact h, h⟩
end
end DN
set_option Elab.async false
set_option linter.all false
set_option maxRecDepth 100000
set_option maxHeartbeats 2000000
/-! DnMore: two readings of one expression, tuple.index, assignments side by side, dicts. -/
namespace DN
open PySem PySem.Spec PyProof.Rows L2
section
variable {X : Cx} {T : TR} {E : XK} {G : DG} {ρ : List Addr} {H : Hp} {σ : St} {aσ : AE} {st : Store}
variable {e o a b c : Expr} {f g h fo fa fb fc : DE} {pos : Pos}
theorem pe_or2 {t t' : TE} (h : PE X e t) (h' : PE X e t') : PE X e fun σ H Q => t σ H Q ∨ t' σ H Q := ⟨fun pins s σ H Q I q => q.elim (h.run pins s σ H Q I) (h'.run pins s σ H Q I)⟩
theorem ev_alt (hf : EV X T E e f) (hg : EV X T E e g) (he : ∀ σ st, h σ st = f σ st ∨ h σ st = g σ st) : EV X T E e h := pe_imp (pe_or2 hf hg) fun σ H Q q => by
  obtain ⟨ρ, aσ, st, hE, hS, q⟩ := q
  rcases he aσ st with z | z
  · exact .inl ⟨ρ, aσ, st, hE, hS, by rw [← z]; exact q⟩
  · exact .inr ⟨ρ, aσ, st, hE, hS, by rw [← z]; exact q⟩
theorem dM_alt {c1 c2 : PV → Store → Bool} {d1 d2 : PV → List PV → M PV} {fo : DE} {fs : DA} (σ : AE) (st : Store) :
    dM (fun x st => c1 x st || c2 x st) (fun x xs st => if c1 x st then d1 x xs st else d2 x xs st) fo fs σ st = dM (fun x st => c1 x st || c2 x st) (fun x xs st => if c1 x st then d1 x xs st else d2 x xs st) fo fs σ st := rfl

/-! ### tuple.index -/
/-- the tuple's object is known -/
def isT (p : PV) (_ : Store) : Bool := match p with
  | .tup l => isF l && !isW l
  | _ => false
def mIndexT (x : PV) (xs : List PV) : M PV := fun st => match xs with
  | [y] => (match toD x st, toD y st with
    | some (.tuple ds), some d => if SeqAt.shaped (.tuple ds) = true ∧ SeqAt.shaped d = true then (match idxD d ds with
      | some j => .ok (.int (j : Nat)) st
      | none => .fail) else .fail
    | _, _ => .fail)
  | _ => .fail
/-- the method of a tuple whose object is known -/
def tBMT (r : V → List V → Hp → VK → Prop) (to : TE) (ta : TA) : TE := fun σ H Q => to σ H fun x H1 => (∃ a ob xs, x = .ref a ∧ H1 a = some (.frz ob (.tup xs)) ∧ PlT ob) ∧ ta σ H1 fun vs H2 => r x vs H2 Q
variable {es : List Expr} {name : Str} {apos cpos : Pos} {id : String} {r : V → List V → Hp → VK → Prop} {d : PV → List PV → M PV} {fs : DA}
theorem pe_bmT {to : TE} {t : TA} (slot : Slot "tuple" name id) (hty : typeOf (.builtin id) = pure (.type "method_descriptor")) (hm : MtR X id r) (ho : PE X o to) (ha : PA X (e :: es) t)
    (hbase : attributeBase o name X.env (eval o X.env) = eval o X.env := by rfl)
    (hfew : ((backTo cpos (starEach (e :: es) X.env)).all (fun x => !x.1) && (backToKw cpos (keywordEach [] X.env)).all (fun x => x.1.isSome)
      && decide ((e :: es).length + ([] : List Keyword).length + (if ([] : List Keyword).isEmpty then 0 else 1) < 30)) = true := by rfl)
    (hline : (apos.endLine == cpos.line) = true := by rfl) (hs : starEach (e :: es) X.env = (false, eval e X.env) :: starEach es X.env := by rfl) (hplain : (backTo cpos (starEach es X.env)).any (·.1) = false := by rfl) :
    PE X (.Call (.Attribute o name apos) (e :: es) [] cpos) (tBMT r to t) := by
  refine ⟨fun pins s σ H Q I h => ?_⟩
  refine wpAny_Call_method_late hbase hfew hline rfl (thn (ho.run pins s σ H _ I h) fun v s1 ⟨x, H1, I1, r1, ⟨a, ob, xs, ex, eh, pl⟩, q1⟩ => ?_)
  subst ex
  cases (show v = Value.ref a from r1)
  have hob : s1.heap.get? a = some ob := (show _ ∧ _ from I1.hok a _ eh).1
  refine ⟨"tuple", id, PySem.F.plainAttrs_tuple, slot, hty, ⟨ob, hob, pl.cls⟩, fun b hb => by cases hb; exact ⟨ob, hob, pl.dict⟩, ?_⟩
  have hA := ha.run cpos pins s1 σ H1 _ I1 q1
  rw [hs] at hA ⊢
  refine Calls.callWith_builtin (by show (false || (backTo cpos (starEach es X.env)).any (·.1)) = false; rw [hplain] <;> rfl) (Calls.evalArgs_plain ?_)
  exact thn hA fun us s2 ⟨vs, H2, I2, r2, q2⟩ => hm pins s2 σ H2 _ vs _ us Q I2 r1 r2 q2
def rIndexT (K : PySem.W.Frag) : V → List V → Hp → VK → Prop := fun x xs H Q => ∃ (a : Addr) (y : V) (d : PyData) (ds : List PyData) (j : Nat) (z : PyData), x = V.ref a ∧ xs = [y] ∧ Dp K H (V.ref a) (.tuple ds) ∧ Dp K H y d ∧
  SeqAt.shaped (.tuple ds) = true ∧ SeqAt.shaped d = true ∧ ds[j]? = some z ∧ PyData.eqv z d = true ∧ (∀ (m : Nat) (z' : PyData), m < j → ds[m]? = some z' → PyData.eqv z' d = false) ∧ Q (.int (j : Nat)) H
theorem mt_indexT (hu : X.A.units + 65 < cLine) : MtR X "tuple.index" (rIndexT X.K) := by
  intro pins s σ H x xs v us Q I rx rxs h
  obtain ⟨a, y, d, ds, j, z, rfl, rfl, hl, hy, sl, sd, hz, hzj, hno, q⟩ := h
  cases rx
  cases rxs with
  | cons ry rt =>
    rename_i uy ut
    cases rt
    obtain ⟨bs, r1⟩ := Dp.reads I d y uy hy ry
    have hxs : PyData.canLayAll0 ds = true := SeqAt.canLay_of_shaped sl
    have hroom : X.A.units + 1 + min (PyData.depthAll ds) d.depth < cLine := room_in_shaped sd hu
    cases hl with
    | tup hs ha =>
      obtain ⟨its, rv, ⟨⟨cls, dd, data, sls⟩, ho, hc, n, hdt⟩, hlen⟩ := I.tuple hs
      simp only at hc hdt
      subst hc hdt
      obtain ⟨as, h4⟩ := Dp.readsAll I ds _ its ha rv
      have hn : its.length = ds.length := SeqAt.ReadsAll.length ds its as h4
      have hmap : its.map (SeqAt.readOf s.heap) = ds := SeqAt.readsAll_map ds its as hxs h4
      obtain ⟨hjd, _⟩ := List.getElem?_eq_some_iff.mp hz
      have hjl : j < its.length := by omega
      have hj : j < its.toArray.size := by simpa using hjl
      have at_ : ∀ (m : Nat) (hm : m < its.toArray.size) (z' : PyData), ds[m]? = some z' → SeqAt.readOf s.heap its.toArray[m] = z' := by
        intro m hm z' hz'
        have hml : m < its.length := by simpa using hm
        rw [← hmap, List.getElem?_map, List.getElem?_eq_getElem hml] at hz'
        have e1 : SeqAt.readOf s.heap its[m] = z' := Option.some.inj (show some (SeqAt.readOf s.heap its[m]) = some z' from hz')
        simpa using e1
      refine call_meets PySem.F.slot_tuple_index ⟨_, ho, rfl⟩ PySem.F.entry_tuple_index (PySem.F.args_tuple_index_2 _ _)
        (TI.tuple_indexAt a its.toArray n dd sls uy (fun u => PyData.eqv (SeqAt.readOf s.heap u) d) j hj ?_ ?_) ⟨ho, SeqAt.items_eqAt (vs := its.toArray) (show ReadsAll s.heap its.toArray.toList ds as from h4) r1 hxs (SeqAt.canLay_of_shaped sd) hroom, ?_⟩
      · show PyData.eqv (SeqAt.readOf s.heap its.toArray[j]) d = true
        rw [at_ j hj z hz]
        exact hzj
      · intro m hm hmj
        have hmd : m < ds.length := by omega
        have hz' : ds[m]? = some ds[m] := List.getElem?_eq_getElem hmd
        show PyData.eqv (SeqAt.readOf s.heap its.toArray[m]) d = false
        rw [at_ m hm _ hz']
        exact hno m _ hmj hz'
      · exact ⟨.int (j : Nat), H, I.tok _, ⟨_, rfl⟩, q⟩
theorem ad_indexT : AdqM G E (rIndexT G.K) mIndexT := fun ρ H st x xs v vs Q hS rx rs h => by
  unfold mIndexT at h
  split at h
  · rename_i y
    split at h
    · rename_i ds d e1 e2
      split at h
      · rename_i hs
        split at h
        · rename_i j e3
          obtain ⟨w, rfl, ry⟩ := all1 rs
          obtain ⟨z, h1, h2, h3⟩ := idxD_some e3
          have q := toD_dp hS e1 rx
          cases q with
          | tup q1 q2 => exact ⟨_, w, d, ds, j, z, rfl, rfl, .tup q1 q2, toD_dp hS e2 ry, hs.1, hs.2, h1, h2, h3, post_val h hS (.int _)⟩
        · exact h.elim
      · exact h.elim
    · exact h.elim
  · exact h.elim
theorem ev_indexT (hu : X.A.units + 65 < cLine) (ho : EV X T E o fo) (ha : EV X T E e (f : DE)) (hbase : attributeBase o "index" X.env (eval o X.env) = eval o X.env := by rfl)
    (hfew : ((backTo cpos (starEach [e] X.env)).all (fun x => !x.1) && (backToKw cpos (keywordEach [] X.env)).all (fun x => x.1.isSome)
      && decide ([e].length + ([] : List Keyword).length + (if ([] : List Keyword).isEmpty then 0 else 1) < 30)) = true := by rfl) (hline : (apos.endLine == cpos.line) = true := by rfl) (hs : starEach [e] X.env = (false, eval e X.env) :: starEach [] X.env := by rfl) (hplain : (backTo cpos (starEach [] X.env)).any (·.1) = false := by rfl) :
    EV X T E (.Call (.Attribute o "index" apos) [e] [] cpos) (dM isT mIndexT fo (dAc f dA0)) :=
  pe_imp (pe_bmT PySem.F.slot_tuple_index PySem.F.type_tuple_index (mt_indexT hu) ho (ea_cons ha ea_nil hs) hbase hfew hline hs hplain) fun σ H Q q => by
  obtain ⟨ρ, aσ, st, hE, hS, h⟩ := q
  refine tv_bind hE hS h fun ρ1 H1 x v st1 _ s1 e1 rx h => ?_
  split at h
  · rename_i hc
    refine ⟨?_, ta_bind e1 s1 h fun ρ2 H2 xs vs st2 x2 s2 _ rs h => ad_indexT ρ2 H2 st2 x xs v vs Q s2 (rx.ext x2) rs h⟩
    cases x with
    | tup l =>
      obtain ⟨hf, hw⟩ := Bool.and_eq_true_iff.mp (show (isF l && !isW l) = true from hc)
      cases rx with
      | tup q ra =>
        rcases q with ⟨ob, pl, q⟩ | ⟨q, _⟩
        · rw [hf] at q
          exact ⟨_, ob, _, rfl, q, pl⟩
        · rw [q] at hw; cases hw
    | _ => cases hc
  · exact h.elim

/-! ### a, b = x, y -/
theorem es_par (i j : Nat) {x y : Str} {px py pt : Pos} {kt k2 : Nat} {pt2 : Pos} (hc : X.calm = true) (hN : X.N.Nodup) (ha : EA X T E [a, b] fs) (hi : X.N[i]? = some x := by rfl) (hj : X.N[j]? = some y := by rfl) (hij : i ≠ j := by decide)
    (hx : X.env.scope.names.lookup x = some .local := by rfl) (hy : X.env.scope.names.lookup y = some .local := by rfl)
    (hw : swappedStores [.Tuple [.Name x px, .Name y py] kt pt] (.Tuple [a, b] k2 pt2) X.env = pure (some [x, y]) := by rfl)
    (hs : swapsWithSole [.Tuple [.Name x px, .Name y py] kt pt] (.Tuple [a, b] k2 pt2) pos.line X.env = pure false := by rfl) :
    ES X T E (.Assign [.Tuple [.Name x px, .Name y py] kt pt] (.Tuple [a, b] k2 pt2) pos) (sPar i j fs) := ps_imp (ps_par hc hN hi hj hij hx hy ha hw hs) fun D σ H q => by
  obtain ⟨ρ, aσ, st, hE, hS, h⟩ := q
  refine ta_bind hE hS h fun ρ1 H1 xs vs st1 x1 s1 e1 rs h => ?_
  split at h
  · obtain ⟨v, w, rfl, r1, r2⟩ := all2 rs
    exact ⟨v, w, rfl, h.ret s1 _ ((e1.set r1).set r2)⟩
  · exact h.elim
theorem all3 {p q r : PV} {vs : List V} (h : RlAll G ρ H [p, q, r] vs) : ∃ v w u, vs = [v, w, u] ∧ Rl G ρ H p v ∧ Rl G ρ H q w ∧ Rl G ρ H r u := by
  cases h with
  | cons r1 t =>
    obtain ⟨w, u, rfl, r2, r3⟩ := all2 t
    exact ⟨_, w, u, rfl, r1, r2, r3⟩
theorem es_par3 (i j l : Nat) {x y z : Str} {px py pz pt : Pos} {kt k2 : Nat} {pt2 : Pos} (hc : X.calm = true) (hN : X.N.Nodup) (ha : EA X T E [a, b, c] fs) (hi : X.N[i]? = some x := by rfl) (hj : X.N[j]? = some y := by rfl) (hl : X.N[l]? = some z := by rfl) (hij : i ≠ j := by decide) (hil : i ≠ l := by decide) (hjl : j ≠ l := by decide)
    (hx : X.env.scope.names.lookup x = some .local := by rfl) (hy : X.env.scope.names.lookup y = some .local := by rfl) (hz : X.env.scope.names.lookup z = some .local := by rfl)
    (hw : swappedStores [.Tuple [.Name x px, .Name y py, .Name z pz] kt pt] (.Tuple [a, b, c] k2 pt2) X.env = pure (some [x, y, z]) := by rfl)
    (hs : swapsWithSole [.Tuple [.Name x px, .Name y py, .Name z pz] kt pt] (.Tuple [a, b, c] k2 pt2) pos.line X.env = pure false := by rfl) :
    ES X T E (.Assign [.Tuple [.Name x px, .Name y py, .Name z pz] kt pt] (.Tuple [a, b, c] k2 pt2) pos) (sPar3 i j l fs) := ps_imp (ps_par3 hc hN hi hj hl hij hil hjl hx hy hz ha hw hs) fun D σ H q => by
  obtain ⟨ρ, aσ, st, hE, hS, h⟩ := q
  refine ta_bind hE hS h fun ρ1 H1 xs vs st1 x1 s1 e1 rs h => ?_
  split at h
  · obtain ⟨v, w, u, rfl, r1, r2, r3⟩ := all3 rs
    exact ⟨v, w, u, rfl, h.ret s1 _ (((e1.set r1).set r2).set r3)⟩
  · exact h.elim

/-! ### dicts that are made -/
/-- {}: keys ints and texts -/
def dNewK : DE := fun _ st => .ok (.ref st.length) (st ++ [.dK []])
/-- {}: keys tuples -/
def dNewT : DE := fun _ st => .ok (.ref st.length) (st ++ [.dT []])
theorem ev_dnewK : EV X T E (.Dict [] [] pos) dNewK := pe_imp pe_dnewK fun σ H Q q => by
  obtain ⟨ρ, aσ, st, hE, hS, h⟩ := q
  intro d hd
  exact h (ρ ++ [d]) _ (ext_push hd) (hS.push hd (.dK (es := []) (kvs := []) upd_same rfl .nil)) _ (.ref (by rw [← hS.len]; simp))
theorem ev_dnewT : EV X T E (.Dict [] [] pos) dNewT := pe_imp pe_dnewT fun σ H Q q => by
  obtain ⟨ρ, aσ, st, hE, hS, h⟩ := q
  intro d hd
  exact h (ρ ++ [d]) _ (ext_push hd) (hS.push hd (.dT (es := []) (kvs := []) upd_same rfl .nil)) _ (.ref (by rw [← hS.len]; simp))
end
end DN
set_option Elab.async false
set_option linter.all false
set_option maxRecDepth 100000
set_option maxHeartbeats 2000000
/-! DnDict: displays of dicts. -/
namespace DN
open PySem PySem.Spec PyProof.Rows L2
/-- the pairs of a display -/
def dPairs : List (DE × DE) → AE → M (List (PV × PV))
  | [], _, st => .ok [] st
  | (k, v) :: r, σ, st => (noX (k σ st)).bind fun x st => (noX (v σ st)).bind fun y st => (dPairs r σ st).bind fun ps st => .ok ((x, y) :: ps) st
def kPairs : List (PV × PV) → Option (List (Key × PV))
  | [] => some []
  | (k, v) :: r => (kOf k).bind fun k => (kPairs r).map fun l => (k, v) :: l
def mergeA {κ α : Type} [DecidableEq κ] (es more : List (κ × α)) : List (κ × α) := more.foldl (fun acc kv => putA acc kv.1 kv.2) es
/-- a display of a dict that nobody changes; one that is an object -/
def mDk (ps : List (PV × PV)) : M PV := fun st => match kPairs ps with
  | some es => if es.length ≤ 15 then .ok (.dK ((mergeA [] es).map (·.1)) ((mergeA [] es).map (·.2))) st else .fail
  | none => .fail
def mDkR (ps : List (PV × PV)) : M PV := fun st => match kPairs ps with
  | some es => if es.length ≤ 15 then .ok (.ref st.length) (st ++ [.dK (mergeA [] es)]) else .fail
  | none => .fail
def dDisp (m : List (PV × PV) → M PV) (l : List (DE × DE)) : DE := fun σ st => (dPairs l σ st).bind m
section
variable {X : Cx} {T : TR} {E : XK} {G : DG} {ρ ρ' ρ1 : List Addr} {H H' H1 : Hp} {σ : St} {aσ : AE} {st st' : Store} {D : Addr} {pos : Pos}
inductive RlPs (G : DG) (ρ : List Addr) (H : Hp) : List (PV × PV) → List (V × V) → Prop where
  | nil : RlPs G ρ H [] []
  | cons {p q : PV} {v w : V} {ps : List (PV × PV)} {vs : List (V × V)} : Rl G ρ H p v → Rl G ρ H q w → RlPs G ρ H ps vs → RlPs G ρ H ((p, q) :: ps) ((v, w) :: vs)
theorem kPairs_rl : ∀ {ps : List (PV × PV)} {vs : List (V × V)} {es : List (Key × PV)}, kPairs ps = some es → RlPs G ρ H ps vs → ∃ kvs : List (Key × V), vs = kvs.map (fun kv => (kV kv.1, kv.2)) ∧ es.map (·.1) = kvs.map (·.1) ∧ RlAll G ρ H (es.map (·.2)) (kvs.map (·.2))
  | [], vs, es, h, r => by
    simp only [kPairs, Option.some.injEq] at h
    subst h; cases r; exact ⟨[], rfl, rfl, .nil⟩
  | (k, v) :: ps, vs, es, h, r => by
    simp only [kPairs] at h
    obtain ⟨k', e1, h⟩ := Option.bind_eq_some_iff.mp h
    obtain ⟨es', e2, rfl⟩ := Option.map_eq_some_iff.mp h
    cases r with
    | cons r1 r2 r3 =>
      obtain ⟨kvs, rfl, h1, h2⟩ := kPairs_rl e2 r3
      have e := kOf_v e1 r1
      exact ⟨(k', _) :: kvs, by rw [e]; rfl, by simp [h1], .cons r2 h2⟩
theorem merge_rl {κ : Type} [DecidableEq κ] : ∀ {more : List (κ × PV)} {moreV : List (κ × V)} {es : List (κ × PV)} {kvs : List (κ × V)}, more.map (·.1) = moreV.map (·.1) → RlAll G ρ H (more.map (·.2)) (moreV.map (·.2)) → es.map (·.1) = kvs.map (·.1) → RlAll G ρ H (es.map (·.2)) (kvs.map (·.2)) →
    (mergeA es more).map (·.1) = (moreV.foldl (fun acc kv => putK acc kv.1 kv.2) kvs).map (·.1) ∧ RlAll G ρ H ((mergeA es more).map (·.2)) ((moreV.foldl (fun acc kv => putK acc kv.1 kv.2) kvs).map (·.2))
  | [], [], es, kvs, _, _, h, r => ⟨h, r⟩
  | [], _ :: _, _, _, h, _, _, _ => by cases h
  | _ :: _, [], _, _, h, _, _, _ => by cases h
  | (k, p) :: more, (k', v) :: moreV, es, kvs, h, r, h0, r0 => by
    simp only [List.map_cons, List.cons.injEq] at h
    obtain ⟨rfl, h⟩ := h
    simp only [List.map_cons] at r
    cases r with
    | cons r1 r2 =>
      obtain ⟨a, b⟩ := put_rl k r1 h0 r0
      exact merge_rl (more := more) (moreV := moreV) h r2 a b
theorem pairs_read : ∀ (trs : List (DE × DE)) (ρ : List Addr) (H : Hp) (st : Store) {ps : List (PV × PV)} {st' : Store}, RlE (gOf X (T.add D)) ρ H aσ σ → RlS (gOf X (T.add D)) ρ H st → dPairs trs aσ st = .ok ps st' →
    ∀ K : List (V × V) → Hp → Prop, (∀ ρ' H' vs, Ext (T.add D) ρ H ρ' H' → RlS (gOf X (T.add D)) ρ' H' st' → RlPs (gOf X (T.add D)) ρ' H' ps vs → K vs H') → tPairs (trs.map fun t => (anyV X T t.1, anyV X T t.2)) σ H K
  | [], ρ, H, st, ps, st', hE, hS, h, K, k => by
    unfold dPairs at h
    cases h
    exact k ρ H [] Ext.refl hS .nil
  | (a, b) :: r, ρ, H, st, ps, st', hE, hS, h, K, k => by
    unfold dPairs at h
    cases q1 : a aσ st with
    | ok x st1 =>
      rw [q1] at h
      simp only [noX, Res.bind] at h
      cases q2 : b aσ st1 with
      | ok y st2 =>
        rw [q2] at h
        simp only [noX] at h
        cases q3 : dPairs r aσ st2 with
        | ok ps' st3 =>
          rw [q3] at h
          simp only [Res.ok.injEq] at h
          obtain ⟨rfl, rfl⟩ := h
          refine ⟨D, ρ, aσ, st, hE, hS, ?_⟩
          show Pst _ _ _ _ _ (a aσ st)
          rw [q1]
          intro ρ1 H1 x1 s1 v rv
          refine ⟨D, ρ1, aσ, st1, RlE.ext (G := gOf X (T.add D)) x1 hE, s1, ?_⟩
          show Pst _ _ _ _ _ (b aσ st1)
          rw [q2]
          intro ρ2 H2 x2 s2 w rw'
          refine pairs_read r ρ2 H2 st2 (RlE.ext (G := gOf X (T.add D)) (x1.trans (G := gOf X (T.add D)) x2) hE) s2 q3 _ fun ρ3 H3 vs x3 s3 rs => ?_
          have x23 : Ext (T.add D) ρ1 H1 ρ3 H3 := Ext.trans (G := gOf X (T.add D)) x2 x3
          exact k ρ3 H3 _ (Ext.trans (G := gOf X (T.add D)) x1 x23) s3 (.cons (Rl.ext (G := gOf X (T.add D)) x23 rv) (Rl.ext (G := gOf X (T.add D)) x3 rw') rs)
        | exc _ _ _ => rw [q3] at h; cases h
        | fail => rw [q3] at h; cases h
      | exc _ _ _ => rw [q2] at h; cases h
      | fail => rw [q2] at h; cases h
    | exc _ _ _ => rw [q1] at h; cases h
    | fail => rw [q1] at h; cases h
/-- a dict that was made at D, the state ahead of it -/
theorem dict_fin {kvs kvs' : List (Key × V)} {es : List (Key × PV)} (hD : H D = none) (hDr : D ∉ T.res) (x : Ext (T.add D) ρ (upd H D (.dK [])) ρ' H') (s : RlS (gOf X (T.add D)) ρ' H' st') (hH : H' D = some (.dK kvs)) (hk : es.map (·.1) = kvs'.map (·.1)) (ra : RlAll (gOf X (T.add D)) ρ' H' (es.map (·.2)) (kvs'.map (·.2))) :
    (Ext T ρ H ρ' (upd H' D (.dK kvs')) ∧ RlS (gOf X T) ρ' (upd H' D (.dK kvs')) st' ∧ Rl (gOf X T) ρ' (upd H' D (.dK kvs')) (.dK (es.map (·.1)) (es.map (·.2))) (.ref D)) ∧
    Ext T ρ H (ρ' ++ [D]) (upd H' D (.dK kvs')) ∧ RlS (gOf X T) (ρ' ++ [D]) (upd H' D (.dK kvs')) (st' ++ [.dK es]) := by
  have g : Mv (T.add D) ρ' H' (T.add D) ρ' (upd H' D (.dK kvs')) := mv_grow hH trivial List.mem_cons_self
  have mvI : Mv T ρ H (T.add D) ρ' (upd H' D (.dK kvs')) := ((mv_in hD).trans x.mv).trans g
  have mv : Mv T ρ H T ρ' (upd H' D (.dK kvs')) := mvI.trans mv_out
  have hDp : D ∉ ρ' := (s.res D List.mem_cons_self).2
  have nw : ∀ a ∈ ρ', a ∈ ρ ∨ H a = none := fun a ha => (x.new a ha).imp id fun z => by
    by_cases e : a = D
    · rw [e]; exact hD
    · rwa [upd_ne e] at z
  have fr : ∀ a, upd H' D (.dK kvs') a = none → H a = none := fun a z => by
    by_cases e : a = D
    · rw [e]; exact hD
    · rw [upd_ne e] at z
      have z := x.free a z
      rwa [upd_ne e] at z
  have rs : ∀ a ∈ T.res, H a ≠ none → upd H' D (.dK kvs') a = H a := fun a ha hn => by
    have ne : a ≠ D := fun e => hDr (e ▸ ha)
    rw [upd_ne ne, x.rs a (List.mem_cons_of_mem _ ha) (by rw [upd_ne ne]; exact hn), upd_ne ne]
  have s1 := rls_grow (K := X.K) (mg := X.mg) (T := T.add D) (o := .dK kvs') s hH trivial List.mem_cons_self
  have ra1 : RlAll (gOf X (T.add D)) ρ' (upd H' D (.dK kvs')) (es.map (·.2)) (kvs'.map (·.2)) := RlAll.mv (K := X.K) (mg := X.mg) g ra
  refine ⟨⟨⟨mv.pre, fun a u r o t => (mv.keep a u r o t).1, nw, fr, mv.tups, rs⟩, rls_out s1, .dK (.inl upd_same) ⟨hDp, hDr⟩ hk (RlAll.mv (K := X.K) (mg := X.mg) mv_out ra1)⟩, ?_, ?_⟩
  · exact ⟨mv.pre.trans (List.prefix_append _ _), fun a u r o t => (mv.keep a u r o t).1, fun a ha => by
      rcases List.mem_append.mp ha with ha | ha
      · exact nw a ha
      · rw [List.mem_singleton.mp ha]; exact .inr hD, fr, mv.tups, rs⟩
  · exact rls_outO s1 (.dK upd_same hk (RlAll.mv (K := X.K) (mg := X.mg) mv_outR ra1)) hDr
theorem dPairs_noexc {x : Str} {w : PV} {s : Store} : ∀ (trs : List (DE × DE)) (st : Store), dPairs trs aσ st ≠ .exc x w s
  | [], st, h => by unfold dPairs at h; cases h
  | (a, b) :: r, st, h => by
    unfold dPairs at h
    cases q1 : a aσ st with
    | ok x st1 =>
      rw [q1] at h
      simp only [noX, Res.bind] at h
      cases q2 : b aσ st1 with
      | ok y st2 =>
        rw [q2] at h
        simp only [noX] at h
        cases q3 : dPairs r aσ st2 with
        | ok _ _ => rw [q3] at h; cases h
        | exc _ _ _ => exact dPairs_noexc r st2 q3
        | fail => rw [q3] at h; cases h
      | exc _ _ _ => rw [q2] at h; cases h
      | fail => rw [q2] at h; cases h
    | exc _ _ _ => rw [q1] at h; cases h
    | fail => rw [q1] at h; cases h
/-- how a display's dict is given -/
def DkEnd (m : List (PV × PV) → M PV) : Prop := m = mDk ∨ m = mDkR
theorem ev_disp {m : List (PV × PV) → M PV} {keys : List (Option Expr)} {values : List Expr} {trs : List (DE × DE)} (hm : DkEnd m)
    (hp : PPs X pos keys values (trs.map fun t => (anyV X T t.1, anyV X T t.2))) (hall : keys.all (·.isSome) = true := by rfl) (hl : keys.length = values.length := by rfl) (h0 : keys ≠ [] := by simp)
    (h15 : keys.length ≤ 15 := by decide) : EV X T E (.Dict keys values pos) (dDisp m trs) := pe_imp (pe_disp hp hall hl h0 h15) fun σ H Q q => by
  obtain ⟨ρ, aσ, st, hE, hS, h⟩ := q
  intro D hD
  have hDr : D ∉ T.res := fun z => (hS.res D z).1 hD
  unfold dDisp at h
  cases q : dPairs trs aσ st with
  | ok ps st' =>
    rw [q] at h
    refine pairs_read trs ρ _ st (RlE.mv (K := X.K) (mg := X.mg) (mv_in hD) hE) (rls_in hS hD) q _ fun ρ' H' vs x s rs => ?_
    have hH : H' D = some (.dK []) := by rw [x.rs D List.mem_cons_self (by rw [upd_same]; simp), upd_same]
    refine ⟨hH, ?_⟩
    have key : ∀ es, kPairs ps = some es → es.length ≤ 15 → ∃ kvs : List (Key × V), vs = kvs.map (fun kv => (kV kv.1, kv.2)) ∧ kvs.length ≤ 15 ∧ (mergeA [] es).map (·.1) = (mergeK [] kvs).map (·.1) ∧ RlAll (gOf X (T.add D)) ρ' H' ((mergeA [] es).map (·.2)) ((mergeK [] kvs).map (·.2)) := fun es he hz => by
      obtain ⟨kvs, rfl, h1, h2⟩ := kPairs_rl he rs
      have z := congrArg List.length h1
      simp only [List.length_map] at z
      obtain ⟨a, b⟩ := merge_rl (es := []) (kvs := []) h1 h2 rfl .nil
      exact ⟨kvs, rfl, by omega, a, b⟩
    rcases hm with rfl | rfl
    · have h : Pst (gOf X T) E ρ H (KV (gOf X T) Q) (mDk ps st') := h
      unfold mDk at h
      split at h
      · rename_i es he
        split at h
        · rename_i hz
          obtain ⟨kvs, rfl, hz', h1, h2⟩ := key es he hz
          obtain ⟨⟨a, b, c⟩, _⟩ := dict_fin (X := X) (T := T) hD hDr x s hH h1 h2
          exact ⟨kvs, rfl, hz', h ρ' _ a b _ c⟩
        · exact h.elim
      · exact h.elim
    · have h : Pst (gOf X T) E ρ H (KV (gOf X T) Q) (mDkR ps st') := h
      unfold mDkR at h
      split at h
      · rename_i es he
        split at h
        · rename_i hz
          obtain ⟨kvs, rfl, hz', h1, h2⟩ := key es he hz
          obtain ⟨_, a, b⟩ := dict_fin (X := X) (T := T) hD hDr x s hH h1 h2
          exact ⟨kvs, rfl, hz', h _ _ a b _ (.ref (by rw [← s.len]; simp))⟩
        · exact h.elim
      · exact h.elim
  | exc c w st' => exact absurd q (dPairs_noexc trs st)
  | fail => rw [q] at h; exact h.elim
end
end DN
set_option Elab.async false
set_option linter.all false
set_option maxRecDepth 100000
set_option maxHeartbeats 2000000
/-! DnEnd: defs by name. -/
namespace DN
open PySem PySem.Spec PyProof.Rows L2
/-- the module's name x is a def that computes d -/
def Cal (P : Program) (w : World) (K : PySem.W.Frag) (mg : Str → Option Value) (base : Heap) (k : Nat) (x : Str) (ps : List Str) (d : List PV → M PV) : Prop :=
  ∃ f fd, FnD P w K mg base k f fd ps d ∧ mg x = some (.ref f) ∧ PySem.W.keepIn K (.ref f) = true ∧ Binds K fd ps []
/-- what is never reached -/
def sFail : DS := fun _ _ => .fail
section
variable {X : Cx} {T : TR} {E : XK} {x : Str} {ps : List Str} {k j : Nat} {d : List PV → M PV} {e : Expr} {es : List Expr} {fs : DA} {p pos : Pos}
theorem ev_cal (C : Cal X.prog X.w X.K X.mg X.base k x ps d) (hr : Room k X.A) (hg : Gl X x) (hx : Lets X E) (ha : EA X T E (e :: es) fs)
    (hdb : (x == ("__debug__" : Str)) = false := by decide) (he : starEach (e :: es) X.env = (false, eval e X.env) :: starEach es X.env := by rfl) (hpl : (backTo pos (starEach es X.env)).any (·.1) = false := by rfl) :
    EV X T E (.Call (.Name x p) (e :: es) [] pos) (dAl d fs) := by
  obtain ⟨f, fd, F, hm, hk, hb⟩ := C
  exact ev_call F hr hg hm hk hb hx ha hdb he hpl
theorem ev_cal0 (C : Cal X.prog X.w X.K X.mg X.base k x ps d) (hr : Room k X.A) (hg : Gl X x) (hx : Lets X E) (hdb : (x == ("__debug__" : Str)) = false := by decide) :
    EV X T E (.Call (.Name x p) [] [] pos) (dAl d dA0) := by
  obtain ⟨f, fd, F, hm, hk, hb⟩ := C
  exact ev_call0 F hr hg hm hk hb hx hdb
theorem es_fail {s : Stmt} : ES X T E s sFail := ⟨fun _ _ _ _ _ _ ⟨_, _, _, _, _, h⟩ => h.elim⟩
theorem ev_gtupX {x : Str} {q : PV} {pos : Pos} (hg : Gl X x) (h : ∃ a, X.mg x = some (.ref a) ∧ ∀ (T : TR) ρ H, Rl ⟨X.K, X.mg, T⟩ ρ H q (.ref a)) (hd : (x == ("__debug__" : Str)) = false := by decide) : EV X T E (.Name x pos) (dC q) := by
  obtain ⟨a, hm, r⟩ := h
  exact ev_gtup hg hm (r T) hd
theorem hu_room {A : Around} {k : Nat} (hr : Room k A) : A.units + 65 < cLine := by
  have := hr.un
  omega
end
end DN
set_option Elab.async false
set_option linter.all false
set_option maxRecDepth 100000
set_option maxHeartbeats 2000000
/-! DnLaw: the end of a law. -/
namespace DN
open PySem PySem.Spec PyProof.Rows L2
/-- a written tuple of the module -/
theorem rl_wtup {K : PySem.W.Frag} {mg : Str → Option Value} {T : TR} {ρ : List Addr} {H : Hp} {l : List PV} {a : Addr} {xs : List V} (hw : isW l = true) (h : SqT K (fun _ => none) a xs) (r : RlAll ⟨K, mg, T⟩ ρ H l xs) : Rl ⟨K, mg, T⟩ ρ H (.tup l) (.ref a) := by
  rcases h with (h | ⟨o, h⟩) | ⟨o, its, n, h1, h2, h3, h4, h5⟩
  · cases h
  · cases h
  · exact .tup (.inr ⟨hw, o, its, n, h1, h2, h3, h4, h5⟩) r
theorem cal_one {P : Program} {w : World} {K : PySem.W.Frag} {mg : Str → Option Value} {base : Heap} {k : Nat} {x p : Str} {d : List PV → M PV} {fa : Addr} (c : Cal P w K mg base k x [p] d) (hm : mg x = some (.ref fa)) : ∃ fd, FnD P w K mg base k fa fd [p] d ∧ Binds K fd [p] [] := by
  obtain ⟨f, fd, F, h1, _, hb⟩ := c
  rw [hm] at h1
  cases h1
  exact ⟨fd, F, hb⟩
/-- the law -/
theorem law_walk {l : PySem.W.OpenLaw} {k : Nat} {q : Program} {loose : List Str} {XP : (Str → Option Value) → Heap → Prop} {YP : World → Heap → Prop} {d : DefRec} {dl : List PV → M PV} {x : Str}
    (hn : l.most = some 63) (hdf : d.params.defaults = []) (hr : Room k callerA)
    (F : ∀ (w : World) (mg : Str → Option Value) (h : Heap), YP w h → h.Ns mainGlobals mg → ∃ (K : PySem.W.Frag) (fa : Addr) (fd : FuncData), K.In h ∧ mg d.name = some (.ref fa) ∧ (∀ (s : Shared) (us : List Value), us.length = 1 → BindsTo s fd ⟨us, []⟩ ([x].zip us)) ∧
      ∀ base : Heap, FnD l.prog w K mg base k fa fd [x] dl)
    (ht : ∀ ns : List Int, ns.length ≤ 63 → (∀ z ∈ ns, Builtin.Int.intBits z ≤ 1048576) → ∃ st, dl [.scr (ns.map PV.int)] [] = .ok (.bl true) st) :
    PySem.W.WalkO q loose XP YP l.row.toRowW d [] (fun f vs => PySem.call f vs) := by
  refine Att.attach_callB hn hdf fun w s₀ s₁ mg mb fa o pm cd doc a vs ns G Y ho hd hcd hmg hobj hints hlen hbits hg => ?_
  obtain ⟨K, fa', fd, KX, hfa, hb, hF⟩ := F w mg _ Y G.T.g
  rw [hmg] at hfa
  cases hfa
  refine law_call KX G.T.g G.T.b G.T.builtins G.T.nolimit hg hobj hints (Nat.le_trans hlen (by decide)) hr (fun base _ _ => (hF base).ok) (fun s u => hb s [u] rfl) (fun H _ hS => ?_) fun H e s' ⟨_, _, _, _, _, _, _, _, _, _, _, _, h⟩ => h
  obtain ⟨st, e⟩ := ht ns hlen hbits
  refine ⟨⟨[], []⟩, [], _, [], ⟨rfl, List.nodup_nil, (fun n o a h => by simp at h), (fun p hp => by cases hp), (fun a ha => by cases ha)⟩, .cons (.scr (xs := ns.map V.int) ?_ (rl_ints ns)) .nil, rfl, ?_⟩
  · rcases hS with h | h
    · exact .inl ⟨h, by simp, by simp⟩
    · exact .inr fun _ => .inr h
  · rw [e]
    intro ρ' H' _ _ v r
    cases r
    rfl
end DN
set_option Elab.async false
set_option linter.all false
set_option maxRecDepth 100000
set_option maxHeartbeats 2000000
/-! DnWp: reasoning about what a def computes. -/
namespace DN
open PySem PySem.Spec PyProof.Rows L2
@[irreducible] def wp {α : Type} (r : Res α) (Q : α → Store → Prop) : Prop := match r with
  | .ok a st => Q a st
  | _ => False
@[simp] theorem B64_eq : B64 = 18446744073709551616 := rfl
@[simp] theorem B200_eq : B200 = 1606938044258990275541962092341162602522202993782792835301376 := rfl
@[simp] theorem SZ_lit : SZ = 16777216 := rfl
/-- by a test's outcome -/
def cnd (b : Bool) (P Q : Prop) : Prop := (b = true → P) ∧ (b = false → Q)
@[simp] theorem cnd_true {P Q : Prop} : cnd true P Q = P := by simp [cnd]
@[simp] theorem cnd_false {P Q : Prop} : cnd false P Q = Q := by simp [cnd]
theorem cnd_pos {b : Bool} {P Q : Prop} (h : b = true) : cnd b P Q = P := by rw [h, cnd_true]
theorem cnd_neg {b : Bool} {P Q : Prop} (h : b = false) : cnd b P Q = Q := by rw [h, cnd_false]
@[simp] theorem cnd_not {b : Bool} {P Q : Prop} : cnd (!b) P Q = cnd b Q P := by cases b <;> simp
/-- a statement: what follows, what is returned, behind a break, a continue -/
@[irreducible] def wps (s : Res (Fl × AE)) (N : AE → Store → Prop) (R : PV → Store → Prop) (B C : AE → Store → Prop) : Prop := match s with
  | .ok (.nx, σ) st => N σ st
  | .ok (.rt v, _) st => R v st
  | .ok (.bk, σ) st => B σ st
  | .ok (.ct, σ) st => C σ st
  | _ => False
def par2 (ps : List PV) (k : PV → PV → Prop) : Prop := match ps with
  | [p, q] => k p q
  | _ => False
def par3 (ps : List PV) (k : PV → PV → PV → Prop) : Prop := match ps with
  | [p, q, r] => k p q r
  | _ => False
@[simp] theorem par2_two {p q : PV} {k : PV → PV → Prop} : par2 [p, q] k = k p q := rfl
@[simp] theorem par3_three {p q r : PV} {k : PV → PV → PV → Prop} : par3 [p, q, r] k = k p q r := rfl
theorem nwF {α : Type} {Q : α → Store → Prop} (h : wp (.fail : Res α) Q) : False := by unfold wp at h; exact h
theorem nwE {α : Type} {Q : α → Store → Prop} {c : Str} {w : PV} {st : Store} (h : wp (.exc c w st : Res α) Q) : False := by unfold wp at h; exact h
section
variable {N : AE → Store → Prop} {R : PV → Store → Prop} {B C : AE → Store → Prop} {σ : AE} {st : Store} {v : PV}
theorem nwsF (h : wps .fail N R B C) : False := by unfold wps at h; exact h
theorem nwsE {c : Str} {w : PV} (h : wps (.exc c w st) N R B C) : False := by unfold wps at h; exact h
theorem wps_nx : wps (.ok (.nx, σ) st) N R B C = N σ st := by unfold wps; rfl
theorem wps_bk : wps (.ok (.bk, σ) st) N R B C = B σ st := by unfold wps; rfl
theorem wps_ct : wps (.ok (.ct, σ) st) N R B C = C σ st := by unfold wps; rfl
theorem wps_rt : wps (.ok (.rt v, σ) st) N R B C = R v st := by unfold wps; rfl
end
section
variable {α β : Type} {Q Q' : α → Store → Prop} {st : Store} {σ : AE}
theorem wp_mono {r : Res α} (h : wp r Q) (i : ∀ a st, Q a st → Q' a st) : wp r Q' := by
  unfold wp at h ⊢
  cases r with
  | ok a st => exact i _ _ h
  | exc _ _ _ => exact h
  | fail => exact h
theorem wp_ok_of {r : Res α} (h : wp r Q) : ∃ a st, r = .ok a st ∧ Q a st := by
  unfold wp at h
  cases r with
  | ok a st => exact ⟨a, st, rfl, h⟩
  | exc _ _ _ => exact h.elim
  | fail => exact h.elim
theorem wp_of {r : Res α} {a : α} {st : Store} (h : r = .ok a st) (q : Q a st) : wp r Q := by rw [h]; unfold wp; exact q
@[simp] theorem wp_ok {a : α} : wp (.ok a st) Q = Q a st := by unfold wp; rfl
@[simp] theorem wp_fail : wp (.fail : Res α) Q = False := by unfold wp; rfl
@[simp] theorem wp_bind {r : Res β} {k : β → Store → Res α} : wp (r.bind k) Q = wp r fun a st => wp (k a st) Q := by cases r <;> (unfold wp; rfl)
theorem wp_ite {c : Prop} [Decidable c] {a b : Res α} : wp (if c then a else b) Q = if c then wp a Q else wp b Q := by split <;> rfl
@[simp] theorem wp_ite_fail {c : Prop} [Decidable c] {a : Res α} : wp (if c then a else .fail) Q = (c ∧ wp a Q) := by
  by_cases h : c <;> simp [h]
@[simp] theorem wp_ite_b {b : Bool} {x y : Res α} : wp (if b = true then x else y) Q = cnd b (wp x Q) (wp y Q) := by cases b <;> simp
end
section
variable {Q : PV → Store → Prop} {QB : Bool → Store → Prop} {QA : List PV → Store → Prop} {st : Store} {σ : AE} {f g h : DE} {c e : DB} {fs : DA}
@[simp] theorem wp_var {i : Nat} : wp (dVar i σ st) Q = ∃ v, σ[i]? = some (some v) ∧ Q v st := by
  unfold dVar
  cases q : σ[i]? with
  | none => simp
  | some o => cases o <;> simp
@[simp] theorem wp_c {v : PV} : wp (dC v σ st) Q = Q v st := by unfold wp; rfl
@[simp] theorem wp_d1 {d : PV → M PV} : wp (d1 d f σ st) Q = wp (f σ st) fun x st => wp (d x st) Q := by simp [d1]
@[simp] theorem wp_d2 {d : PV → PV → M PV} : wp (d2 d f g σ st) Q = wp (f σ st) fun x st => wp (g σ st) fun y st => wp (d x y st) Q := by simp [d2]
@[simp] theorem wp_a0 : wp (dA0 σ st) QA = QA [] st := by unfold wp; rfl
@[simp] theorem wp_ac : wp (dAc f fs σ st) QA = wp (f σ st) fun x st => wp (fs σ st) fun xs st => QA (x :: xs) st := by simp [dAc]
@[simp] theorem wp_al {d : List PV → M PV} : wp (dAl d fs σ st) Q = wp (fs σ st) fun xs st => wp (d xs st) Q := by simp [dAl]
@[simp] theorem wp_tB_bl {b : Bool} : wp (tB (.bl b) st) QB = QB b st := by unfold wp; rfl
theorem wp_tB {p : PV} : wp (tB p st) QB = ∃ b, p = .bl b ∧ QB b st := by cases p <;> simp [tB]
@[simp] theorem wp_bVal : wp (bVal f σ st) QB = wp (f σ st) fun p st => wp (tB p st) QB := by simp [bVal]
@[simp] theorem wp_bNot : wp (bNot c σ st) QB = wp (c σ st) fun b st => QB (!b) st := by simp [bNot]
@[simp] theorem wp_bAnd : wp (bAnd c e σ st) QB = wp (c σ st) fun b st => cnd b (wp (e σ st) QB) (QB false st) := by
  simp only [bAnd, wp_bind]
  congr 1; funext b st; cases b <;> simp
@[simp] theorem wp_bOr : wp (bOr c e σ st) QB = wp (c σ st) fun b st => cnd b (QB true st) (wp (e σ st) QB) := by
  simp only [bOr, wp_bind]
  congr 1; funext b st; cases b <;> simp
@[simp] theorem wp_bTruth : wp (bTruth f σ st) QB = wp (f σ st) fun p st => wp (pTruth p st) QB := by simp [bTruth]
@[simp] theorem wp_dIf : wp (dIf c f g σ st) Q = wp (c σ st) fun b st => cnd b (wp (f σ st) Q) (wp (g σ st) Q) := by
  simp only [dIf, wp_bind]
  congr 1; funext b st; cases b <;> simp
@[simp] theorem wp_dAnd : wp (dAnd f g σ st) Q = wp (f σ st) fun p st => wp (tB p st) fun b st => cnd b (wp (g σ st) Q) (Q (.bl false) st) := by
  simp only [dAnd, wp_bind]
  congr 1; funext p st; congr 1; funext b st; cases b <;> simp
@[simp] theorem wp_dOr : wp (dOr f g σ st) Q = wp (f σ st) fun p st => wp (tB p st) fun b st => cnd b (Q (.bl true) st) (wp (g σ st) Q) := by
  simp only [dOr, wp_bind]
  congr 1; funext p st; congr 1; funext b st; cases b <;> simp
@[simp] theorem wp_dNot : wp (dNot f σ st) Q = wp (f σ st) fun p st => wp (tB p st) fun b st => Q (.bl (!b)) st := by simp [dNot]
@[simp] theorem wp_chain {d d' : PV → PV → M PV} : wp (dChain d d' f g h σ st) Q = wp (f σ st) fun x st => wp (g σ st) fun y st => wp (d x y st) fun p st => wp (tB p st) fun k st => cnd k (wp (h σ st) fun z st => wp (d' y z st) Q) (Q (.bl false) st) := by
  simp only [dChain, wp_bind]
  congr 1; funext x st; congr 1; funext y st; congr 1; funext p st; congr 1; funext k st; cases k <;> simp
/-! operators on numbers -/
@[simp] theorem wp_addI {i j : Int} : wp (pAdd (.int i) (.int j) st) Q = Q (.int (i + j)) st := by unfold wp; rfl
@[simp] theorem wp_subI {i j : Int} : wp (pSub (.int i) (.int j) st) Q = Q (.int (i - j)) st := by unfold wp; rfl
@[simp] theorem wp_mulI {i j : Int} : wp (pMul (.int i) (.int j) st) Q = (((-B64 < i ∧ i < B64) ∨ (-B64 < j ∧ j < B64)) ∧ Q (.int (i * j)) st) := by simp [pMul]
@[simp] theorem wp_divI {i j : Int} : wp (pDiv (.int i) (.int j) st) Q = ((0 < j ∧ j < B200) ∧ Q (.int (i / j)) st) := by simp [pDiv]
@[simp] theorem wp_modI {i j : Int} : wp (pMod (.int i) (.int j) st) Q = (0 < j ∧ Q (.int (i % j)) st) := by simp [pMod]
@[simp] theorem wp_powI {i j : Int} : wp (pPow (.int i) (.int j) st) Q = ((0 ≤ j ∧ j ≤ 1000 ∧ -B64 < i ∧ i < B64) ∧ Q (.int (i ^ j.toNat)) st) := by simp [pPow]
@[simp] theorem wp_negI {i : Int} : wp (pNeg (.int i) st) Q = Q (.int (-i)) st := by unfold wp; rfl
@[simp] theorem wp_ltI {f : Int → Int → Bool} {i j : Int} : wp (pLtI f (.int i) (.int j) st) Q = Q (.bl (f i j)) st := by unfold wp; rfl
@[simp] theorem wp_eqII {i j : Int} : wp (pEq (.int i) (.int j) st) Q = Q (.bl (decide (i = j))) st := by unfold wp; rfl
@[simp] theorem wp_neII {i j : Int} : wp (pNe (.int i) (.int j) st) Q = Q (.bl (!decide (i = j))) st := by unfold wp; rfl
@[simp] theorem wp_eqSS {x y : Str} : wp (pEq (.str x) (.str y) st) Q = Q (.bl (decide (x = y))) st := by unfold wp; rfl
@[simp] theorem wp_neSS {x y : Str} : wp (pNe (.str x) (.str y) st) Q = Q (.bl (!decide (x = y))) st := by unfold wp; rfl
@[simp] theorem wp_isN {x : PV} : wp (pIs x .non st) Q = Q (.bl (isNon x)) st := by unfold wp; rfl
@[simp] theorem wp_isNotN {x : PV} : wp (pIsNot x .non st) Q = Q (.bl (!isNon x)) st := by unfold wp; rfl
@[simp] theorem isNon_non : isNon .non = true := rfl
@[simp] theorem isNon_tup {l} : isNon (.tup l) = false := rfl
@[simp] theorem isNon_int {l} : isNon (.int l) = false := rfl
@[simp] theorem isNon_bl {l} : isNon (.bl l) = false := rfl
@[simp] theorem isNon_str {l} : isNon (.str l) = false := rfl
@[simp] theorem isNon_lst {l} : isNon (.lst l) = false := rfl
@[simp] theorem wp_maxII {i j : Int} : wp (qMax [.int i, .int j] st) Q = Q (.int (if j > i then j else i)) st := by unfold wp; rfl
@[simp] theorem wp_minII {i j : Int} : wp (qMin [.int i, .int j] st) Q = Q (.int (if j < i then j else i)) st := by unfold wp; rfl
@[simp] theorem wp_intI {i : Int} : wp (qInt [.int i] st) Q = Q (.int i) st := by unfold wp; rfl
@[simp] theorem wp_intB {b : Bool} : wp (qInt [.bl b] st) Q = Q (.int (if b = true then 1 else 0)) st := by unfold wp; rfl
@[simp] theorem wp_lenT {l : List PV} : wp (qLen [.tup l] st) Q = Q (.int l.length) st := by unfold wp; rfl
@[simp] theorem wp_lenL {l : List PV} : wp (qLen [.lst l] st) Q = Q (.int l.length) st := by unfold wp; rfl
@[simp] theorem wp_lenS {l : List PV} : wp (qLen [.scr l] st) Q = Q (.int l.length) st := by unfold wp; rfl
@[simp] theorem wp_tupT {l : List PV} : wp (qTup [.tup l] st) Q = Q (.tup l) st := by unfold wp; rfl
@[simp] theorem wp_tupL {l : List PV} : wp (qTup [.lst l] st) Q = Q (.tup l) st := by unfold wp; rfl
@[simp] theorem wp_lstL {l : List PV} : wp (qLst [.lst l] st) Q = Q (.lst l) st := by unfold wp; rfl
@[simp] theorem wp_lstT {l : List PV} : wp (qLst [.tup l] st) Q = Q (.lst l) st := by unfold wp; rfl
@[simp] theorem wp_lstRL {l : List PV} : wp (qLstR [.lst l] st) Q = Q (.ref st.length) (st ++ [.lst l]) := by unfold wp; rfl
@[simp] theorem wp_lstRT {l : List PV} : wp (qLstR [.tup l] st) Q = Q (.ref st.length) (st ++ [.lst l]) := by unfold wp; rfl
@[simp] theorem wp_mTup {l : List PV} : wp (mTup l st) Q = (l.length ≤ SZ ∧ Q (.tup l) st) := by simp [mTup]
@[simp] theorem wp_mLst {l : List PV} : wp (mLst l st) Q = (l.length ≤ SZ ∧ Q (.lst l) st) := by simp [mLst]
@[simp] theorem wp_mLstR {l : List PV} : wp (mLstR l st) Q = (l.length ≤ SZ ∧ Q (.ref st.length) (st ++ [.lst l])) := by simp [mLstR]
@[simp] theorem wp_ixT {l : List PV} {i : Int} : wp (pIx (.tup l) (.int i) st) Q = ∃ v, atI l i = some v ∧ Q v st := by
  simp only [pIx, dGet]
  cases atI l i <;> simp
@[simp] theorem wp_ixL {l : List PV} {i : Int} : wp (pIx (.lst l) (.int i) st) Q = ∃ v, atI l i = some v ∧ Q v st := by
  simp only [pIx, dGet, asR, asL]
  cases atI l i <;> simp
@[simp] theorem wp_ixS {l : List PV} {i : Int} : wp (pIx (.scr l) (.int i) st) Q = ∃ v, atI l i = some v ∧ Q v st := by
  simp only [pIx, dGet, asR]
  cases atI l i <;> simp
theorem wp_ixR {l : List PV} {i : Int} {n : Nat} (hn : st[n]? = some (.lst l)) : wp (pIx (.ref n) (.int i) st) Q = ∃ v, atI l i = some v ∧ Q v st := by
  simp only [pIx, dGet, asR, asL, hn]
  cases atI l i <;> simp
theorem wp_lenR {l : List PV} {n : Nat} (hn : st[n]? = some (.lst l)) : wp (qLen [.ref n] st) Q = Q (.int l.length) st := by
  simp only [qLen, hn, wp_ok]
theorem wp_tupR {l : List PV} {n : Nat} (hn : st[n]? = some (.lst l)) : wp (qTup [.ref n] st) Q = Q (.tup l) st := by
  simp only [qTup, asL, hn, wp_ok]
@[simp] theorem wp_addT {x y : List PV} : wp (pAdd (.tup x) (.tup y) st) Q = (x.length + y.length ≤ SZ ∧ Q (.tup (x ++ y)) st) := by simp [pAdd]
@[simp] theorem wp_addL {x y : List PV} : wp (pAdd (.lst x) (.lst y) st) Q = (x.length + y.length ≤ SZ ∧ Q (.lst (x ++ y)) st) := by simp [pAdd, asL]
@[simp] theorem wp_truthB {b : Bool} : wp (pTruth (.bl b) st) QB = QB b st := by unfold wp; rfl
@[simp] theorem wp_dSl {a b : DO} : wp (dSl f a b σ st) Q = wp (f σ st) fun x st => wp (a σ st) fun lo st => wp (b σ st) fun hi st => wp (pSl x lo hi st) Q := by simp [dSl]
@[simp] theorem wp_oNone {QO : Option Int → Store → Prop} : wp (oNone σ st) QO = QO none st := by unfold wp; rfl
@[simp] theorem wp_oSome {QO : Option Int → Store → Prop} : wp (oSome f σ st) QO = wp (f σ st) fun p st => ∃ i, p = .int i ∧ QO (some i) st := by
  simp only [oSome, wp_bind]
  congr 1; funext p st; cases p <;> simp
@[simp] theorem wp_slT {l : List PV} {lo hi : Option Int} : wp (pSl (.tup l) lo hi st) Q = Q (.tup (cut l lo hi)) st := by unfold wp; rfl
@[simp] theorem wp_slL {l : List PV} {lo hi : Option Int} : wp (pSl (.lst l) lo hi st) Q = Q (.lst (cut l lo hi)) st := by unfold wp; rfl
/-! statements -/
variable {N : AE → Store → Prop} {R : PV → Store → Prop} {B C : AE → Store → Prop} {s t : DS}
@[simp] theorem wps_next : wps (sNext σ st) N R B C = N σ st := by unfold wps; rfl
@[simp] theorem wps_break : wps (sBreak σ st) N R B C = B σ st := by unfold wps; rfl
@[simp] theorem wps_cont : wps (sCont σ st) N R B C = C σ st := by unfold wps; rfl
@[simp] theorem wps_seq : wps (sSeq s t σ st) N R B C = wps (s σ st) (fun σ st => wps (t σ st) N R B C) R B C := by
  unfold sSeq
  cases s σ st with
  | ok r st => obtain ⟨fl, σ⟩ := r; cases fl <;> (unfold wps; (try unfold wp); rfl)
  | exc _ _ _ => (unfold wps; (try unfold wp); rfl)
  | fail => (unfold wps; (try unfold wp); rfl)
@[simp] theorem wps_expr : wps (sExpr f σ st) N R B C = wp (f σ st) fun _ st => N σ st := by
  unfold sExpr
  cases f σ st <;> (unfold wps; (try unfold wp); rfl)
@[simp] theorem wps_ret : wps (sRet f σ st) N R B C = wp (f σ st) fun v st => R v st := by
  unfold sRet
  cases f σ st <;> (unfold wps; (try unfold wp); rfl)
@[simp] theorem wps_retN : wps (sRetN σ st) N R B C = R .non st := by unfold wps; rfl
@[simp] theorem wps_fail : wps (sFail σ st) N R B C = False := by unfold wps; rfl
@[simp] theorem wps_if : wps (sIf c s t σ st) N R B C = wp (c σ st) fun b st => cnd b (wps (s σ st) N R B C) (wps (t σ st) N R B C) := by
  unfold sIf
  cases c σ st with
  | ok b st => cases b <;> simp [Res.bind]
  | exc _ _ _ => (unfold wps; (try unfold wp); rfl)
  | fail => (unfold wps; (try unfold wp); rfl)
@[simp] theorem wps_asg {t : DT} : wps (sAsg f t σ st) N R B C = wp (f σ st) fun p st => wp (t p σ st) fun σ st => N σ st := by
  unfold sAsg
  cases f σ st with
  | ok b st => simp only [Res.bind, wp_ok]; cases t b σ st <;> (unfold wps; (try unfold wp); rfl)
  | exc _ _ _ => (unfold wps; (try unfold wp); rfl)
  | fail => (unfold wps; (try unfold wp); rfl)
@[simp] theorem wps_par {i j : Nat} : wps (sPar i j fs σ st) N R B C = wp (fs σ st) fun ps st => par2 ps fun p q => N ((σ.set i (some p)).set j (some q)) st := by
  unfold sPar
  cases fs σ st with
  | ok ps st =>
    simp only [Res.bind, wp_ok]
    match ps with
    | [] => (unfold wps; (try unfold wp); rfl)
    | [p] => (unfold wps; (try unfold wp); rfl)
    | [p, q] => (unfold wps; (try unfold wp); rfl)
    | p :: q :: r :: l => (unfold wps; (try unfold wp); rfl)
  | exc _ _ _ => (unfold wps; (try unfold wp); rfl)
  | fail => (unfold wps; (try unfold wp); rfl)
@[simp] theorem wps_par3 {i j k : Nat} : wps (sPar3 i j k fs σ st) N R B C = wp (fs σ st) fun ps st => par3 ps fun p q r => N (((σ.set i (some p)).set j (some q)).set k (some r)) st := by
  unfold sPar3
  cases fs σ st with
  | ok ps st =>
    simp only [Res.bind, wp_ok]
    match ps with
    | [] => (unfold wps; (try unfold wp); rfl)
    | [p] => (unfold wps; (try unfold wp); rfl)
    | [p, q] => (unfold wps; (try unfold wp); rfl)
    | [p, q, r] => (unfold wps; (try unfold wp); rfl)
    | p :: q :: r :: u :: l => (unfold wps; (try unfold wp); rfl)
  | exc _ _ _ => (unfold wps; (try unfold wp); rfl)
  | fail => (unfold wps; (try unfold wp); rfl)
theorem wps_ite {c : Prop} [Decidable c] {a b : Res (Fl × AE)} : wps (if c then a else b) N R B C = if c then wps a N R B C else wps b N R B C := by split <;> rfl
theorem wps_mono {r : Res (Fl × AE)} {N' : AE → Store → Prop} {R' : PV → Store → Prop} {B' C' : AE → Store → Prop} (h : wps r N R B C) (n : ∀ σ st, N σ st → N' σ st) (rr : ∀ v st, R v st → R' v st) (b : ∀ σ st, B σ st → B' σ st) (c : ∀ σ st, C σ st → C' σ st) : wps r N' R' B' C' := by
  unfold wps at h ⊢
  cases r with
  | ok r st =>
    obtain ⟨fl, σ⟩ := r
    cases fl
    · exact n _ _ h
    · exact b _ _ h
    · exact c _ _ h
    · exact rr _ _ h
  | exc _ _ _ => exact h
  | fail => exact h
/-! targets -/
variable {QE : AE → Store → Prop}
@[simp] theorem wp_tName {i : Nat} {p : PV} : wp (tName i p σ st) QE = QE (σ.set i (some p)) st := by unfold wp; rfl
@[simp] theorem wp_tNil : wp (tNil [] σ st) QE = QE σ st := by unfold wp; rfl
@[simp] theorem wp_tCons {t : DT} {ts : DTs} {p : PV} {ps : List PV} : wp (tCons t ts (p :: ps) σ st) QE = wp (t p σ st) fun σ st => wp (ts ps σ st) QE := by simp [tCons]
@[simp] theorem wp_tTupP {n : Nat} {ts : DTs} {l : List PV} : wp (tTupP n ts (.tup l) σ st) QE = (l.length = n ∧ wp (ts l σ st) QE) := by simp [tTupP]
@[simp] theorem wp_tSub {fo fi : DE} {p : PV} : wp (tSub fo fi p σ st) QE = wp (fo σ st) fun o st => wp (fi σ st) fun i st => wp (pSet o i p st) fun _ st => QE σ st := by simp [tSub]
/-! loops -/
theorem wps_forL {t : DT} {b : DS} {w : List Nat} (I : List PV → AE → Store → Prop) : ∀ (l : List PV) (σ : AE) (st : Store), I l σ st →
    (∀ p r σ st, I (p :: r) σ st → wp (t p σ st) fun σ1 st1 => wps (b σ1 st1) (fun σ2 st2 => I r (wipeA σ2 w) st2) R (fun σ2 st2 => N (wipeA σ2 w) st2) (fun σ2 st2 => I r (wipeA σ2 w) st2)) → (∀ σ st, I [] σ st → N (wipeA σ w) st) →
    wps (forL t b w (fun _ => true) l σ st) N R B C
  | [], σ, st, h, _, hf => by
    unfold forL
    rw [if_pos rfl]
    exact wps_nx.mpr (hf σ st h)
  | p :: r, σ, st, h, hs, hf => by
    unfold forL
    rw [if_pos rfl]
    have h1 := hs p r σ st h
    cases q : t p σ st with
    | ok σ1 st1 =>
      rw [q] at h1
      simp only [wp_ok] at h1
      simp only [Res.bind]
      cases q2 : b σ1 st1 with
      | ok r' st2 =>
        rw [q2] at h1
        obtain ⟨fl, σ2⟩ := r'
        cases fl with
        | nx => have h2 := wps_nx.mp h1; exact wps_forL I r _ _ h2 hs hf
        | ct => have h2 := wps_ct.mp h1; exact wps_forL I r _ _ h2 hs hf
        | bk => have h2 := wps_bk.mp h1; exact wps_nx.mpr h2
        | rt v => have h2 := wps_rt.mp h1; exact wps_rt.mpr h2
      | exc _ _ _ => rw [q2] at h1; exact (nwsE h1).elim
      | fail => rw [q2] at h1; exact (nwsF h1).elim
    | exc _ _ _ => rw [q] at h1; exact (nwE h1).elim
    | fail => rw [q] at h1; exact (nwF h1).elim
theorem rgP_cons {a b : Int} (h : a < b) : rgP a b = .int a :: rgP (a + 1) b := by
  unfold rgP
  have e : (b - a).toNat = (b - (a + 1)).toNat + 1 := by omega
  rw [e, List.range_succ_eq_map]
  rw [List.map_cons, List.map_map]
  have e0 : a + ((0 : Nat) : Int) = a := by omega
  rw [e0]
  congr 1
  refine List.map_congr_left fun i _ => ?_
  simp only [Function.comp, PV.int.injEq]
  omega
theorem rgP_nil {a b : Int} (h : b ≤ a) : rgP a b = [] := by
  unfold rgP
  rw [show (b - a).toNat = 0 by omega]
  rfl
/-- a walk over numbers -/
theorem wps_forR {t : DT} {b : DS} {w : List Nat} {hi : Int} (I : Int → AE → Store → Prop) (hs : ∀ i σ st, I i σ st → i < hi → wp (t (.int i) σ st) fun σ1 st1 => wps (b σ1 st1) (fun σ2 st2 => I (i + 1) (wipeA σ2 w) st2) R (fun σ2 st2 => N (wipeA σ2 w) st2) (fun σ2 st2 => I (i + 1) (wipeA σ2 w) st2))
    (hf : ∀ i σ st, I i σ st → hi ≤ i → N (wipeA σ w) st) : ∀ (lo : Int) (σ : AE) (st : Store), I lo σ st → wps (forL t b w (fun _ => true) (rgP lo hi) σ st) N R B C := fun lo σ st h => by
  refine wps_forL (fun l σ st => ∃ i, l = rgP i hi ∧ I i σ st) _ σ st ⟨lo, rfl, h⟩ ?_ ?_
  · rintro p r σ st ⟨i, e, h⟩
    by_cases hi' : i < hi
    · rw [rgP_cons hi'] at e
      cases e
      refine wp_mono (hs i σ st h hi') fun σ1 st1 h => ?_
      exact wps_mono h (fun σ st h => ⟨_, rfl, h⟩) (fun _ _ h => h) (fun _ _ h => h) (fun σ st h => ⟨_, rfl, h⟩)
    · rw [rgP_nil (by omega)] at e
      cases e
  · rintro σ st ⟨i, e, h⟩
    by_cases hi' : i < hi
    · rw [rgP_cons hi'] at e
      cases e
    · exact hf i σ st h (by omega)
@[simp] theorem wps_for {s : DI} {t : DT} {b : DS} {w : List Nat} : wps (sFor s t b w σ st) N R B C = wp (s σ st) fun r st => wps (forL t b w r.2 r.1 σ st) N R B C := by
  unfold sFor
  cases s σ st <;> (unfold wps; unfold wp; rfl)
variable {QI : Src → Store → Prop}
@[simp] theorem wp_iRg1 : wp (iRg1 f σ st) QI = wp (f σ st) fun p st => ∃ n, p = .int n ∧ rgOk n = true ∧ QI (rgP 0 n, fun _ => true) st := by
  simp only [iRg1, wp_bind]
  congr 1; funext p st; cases p <;> simp
@[simp] theorem wp_iRg2 : wp (iRg2 f g σ st) QI = wp (f σ st) fun p st => wp (g σ st) fun q st => ∃ a b, p = .int a ∧ q = .int b ∧ rgOk a = true ∧ rgOk b = true ∧ QI (rgP a b, fun _ => true) st := by
  simp only [iRg2, wp_bind]
  congr 1; funext p st; congr 1; funext q st; cases p <;> cases q <;> simp [and_assoc]
@[simp] theorem wp_iSeq : wp (iSeq f σ st) QI = wp (f σ st) fun p st => wp (srcOf p st) QI := by simp [iSeq]
@[simp] theorem wp_srcT {l : List PV} : wp (srcOf (.tup l) st) QI = QI (l, fun _ => true) st := by unfold wp; rfl
@[simp] theorem wp_srcL {l : List PV} : wp (srcOf (.lst l) st) QI = QI (l, fun _ => true) st := by unfold wp; rfl
@[simp] theorem wp_iEn : wp (iEn f σ st) QI = wp (f σ st) fun p st => wp (srcEn p st) QI := by simp [iEn]
@[simp] theorem wp_enT {l : List PV} : wp (srcEn (.tup l) st) QI = QI (numbered 0 l, fun _ => true) st := by unfold wp; rfl
@[simp] theorem wp_enL {l : List PV} : wp (srcEn (.lst l) st) QI = QI (numbered 0 l, fun _ => true) st := by unfold wp; rfl
theorem rgOk_small {i : Int} (h0 : -1000000 ≤ i) (h1 : i ≤ 1000000) : rgOk i = true := by
  unfold rgOk
  rw [decide_eq_true_eq]
  omega
/-! comprehensions -/
@[simp] theorem wp_comp {s : DI} {t : DT} {c : DB} {e : DE} {w : List Nat} {m : List PV → M PV} : wp (dCompL s t c e w m σ st) Q = wp (s σ st) fun r st => wp (lcI t c e r.2 (wipeA σ w) r.1 st) fun vs st => wp (m vs st) Q := by simp [dCompL]
@[simp] theorem wp_noX {α : Type} {Q : α → Store → Prop} {r : Res α} : wp (noX r) Q = wp r Q := by cases r <;> (unfold wp; rfl)
theorem wp_lcI {t : DT} {c : DB} {e : DE} {QL : List PV → Store → Prop} (I : List PV → List PV → Store → Prop) : ∀ (l : List PV) (st : Store), I [] l st →
    (∀ acc p r st, I acc (p :: r) st → wp (t p σ st) fun σ1 st1 => wp (c σ1 st1) fun b st2 => cnd b (wp (e σ1 st2) fun v st3 => I (acc ++ [v]) r st3) (I acc r st2)) → (∀ acc st, I acc [] st → QL acc st) → wp (lcI t c e (fun _ => true) σ l st) QL := by
  have key : ∀ (l : List PV) (st : Store) (acc : List PV), I acc l st → (∀ acc p r st, I acc (p :: r) st → wp (t p σ st) fun σ1 st1 => wp (c σ1 st1) fun b st2 => cnd b (wp (e σ1 st2) fun v st3 => I (acc ++ [v]) r st3) (I acc r st2)) →
      wp (lcI t c e (fun _ => true) σ l st) fun vs st => I (acc ++ vs) [] st := by
    intro l
    induction l with
    | nil =>
      intro st acc h _
      unfold lcI
      rw [if_pos rfl]
      simpa using h
    | cons p r ih =>
      intro st acc h hs
      unfold lcI
      rw [if_pos rfl]
      simp only [wp_bind, wp_noX]
      refine wp_mono (hs acc p r st h) fun σ1 st1 h => wp_mono h fun b st2 h => ?_
      cases b with
      | true =>
        simp only [cnd_true, if_true, wp_bind, wp_noX] at h ⊢
        refine wp_mono h fun v st3 h => wp_mono (ih st3 _ h hs) fun vs st4 h => ?_
        simpa using h
      | false =>
        simp only [cnd_false, Bool.false_eq_true, if_false] at h ⊢
        exact ih st2 acc h hs
  intro l st h hs hf
  refine wp_mono (key l st [] h hs) fun vs st h => hf vs st (by simpa using h)
/-- the store stays as it is -/
theorem wp_lcP {t : DT} {c : DB} {e : DE} {QL : List PV → Store → Prop} (g : PV → Option PV) (l : List PV)
    (hs : ∀ p ∈ l, wp (t p σ st) fun σ1 st1 => wp (c σ1 st1) fun b st2 => cnd b (wp (e σ1 st2) fun v st3 => st3 = st ∧ g p = some v) (st2 = st ∧ g p = none)) (hf : QL (l.filterMap g) st) : wp (lcI t c e (fun _ => true) σ l st) QL := by
  refine wp_lcI (fun acc r st' => st' = st ∧ acc ++ r.filterMap g = l.filterMap g ∧ ∀ p ∈ r, p ∈ l) l st ⟨rfl, by simp, fun p h => h⟩ ?_ ?_
  · rintro acc p r st' ⟨rfl, h1, h2⟩
    refine wp_mono (hs p (h2 p List.mem_cons_self)) fun σ1 st1 h => wp_mono h fun b st2 h => ?_
    cases b with
    | true =>
      simp only [cnd_true] at h ⊢
      refine wp_mono h fun v st3 h => ⟨h.1, ?_, fun q hq => h2 q (List.mem_cons_of_mem _ hq)⟩
      rw [← h1, List.filterMap_cons, h.2]
      simp
    | false =>
      simp only [cnd_false, Bool.false_eq_true, if_false] at h ⊢
      refine ⟨h.1, ?_, fun q hq => h2 q (List.mem_cons_of_mem _ hq)⟩
      rw [← h1, List.filterMap_cons, h.2]
  · rintro acc st' ⟨rfl, h1, _⟩
    simp only [List.filterMap_nil, List.append_nil] at h1
    rw [h1]
    exact hf
end
end DN
set_option Elab.async false
set_option linter.all false
set_option maxRecDepth 100000
set_option maxHeartbeats 2000000
/-! DnWp2: what a def lets go; lists that change; the draws of a law. -/
namespace DN
open PySem PySem.Spec PyProof.Rows L2
/-! ### values without objects -/
mutual
def cl : PV → Bool
  | .ref _ => false
  | .tup l => cls l
  | .lst l => cls l
  | .scr l => cls l
  | .dK _ l => cls l
  | .dT _ l => cls l
  | .non => true
  | .bl _ => true
  | .int _ => true
  | .str _ => true
  | .con _ => true
  | .ty _ => true
def cls : List PV → Bool
  | [] => true
  | p :: ps => cl p && cls ps
end
mutual
theorem mapV_cl {g : Nat → Option PV} : ∀ {p : PV}, cl p = true → mapV g p = some p
  | .ref n, h => by simp [cl] at h
  | .tup l, h => by simp only [cl] at h; simp only [mapV, mapVs_cl h, Option.map_some]
  | .lst l, h => by simp only [cl] at h; simp only [mapV, mapVs_cl h, Option.map_some]
  | .scr l, h => by simp only [cl] at h; simp only [mapV, mapVs_cl h, Option.map_some]
  | .dK _ l, h => by simp only [cl] at h; simp only [mapV, mapVs_cl h, Option.map_some]
  | .dT _ l, h => by simp only [cl] at h; simp only [mapV, mapVs_cl h, Option.map_some]
  | .non, _ => by simp only [mapV]
  | .bl _, _ => by simp only [mapV]
  | .int _, _ => by simp only [mapV]
  | .str _, _ => by simp only [mapV]
  | .con _, _ => by simp only [mapV]
  | .ty _, _ => by simp only [mapV]
theorem mapVs_cl {g : Nat → Option PV} : ∀ {l : List PV}, cls l = true → mapVs g l = some l
  | [], _ => by simp only [mapVs]
  | p :: ps, h => by
    simp only [cls, Bool.and_eq_true] at h
    simp only [mapVs, mapV_cl h.1, mapVs_cl h.2, Option.bind_some, Option.map_some]
end
@[simp] theorem cl_int {i} : cl (.int i) = true := by simp [cl]
@[simp] theorem cl_str {i} : cl (.str i) = true := by simp [cl]
@[simp] theorem cl_non : cl .non = true := by simp [cl]
@[simp] theorem cl_bl {i} : cl (.bl i) = true := by simp [cl]
@[simp] theorem cl_tup {l} : cl (.tup l) = cls l := by simp [cl]
@[simp] theorem cl_lst {l} : cl (.lst l) = cls l := by simp [cl]
@[simp] theorem cl_dT {k l} : cl (.dT k l) = cls l := by simp [cl]
@[simp] theorem cl_dK {k l} : cl (.dK k l) = cls l := by simp [cl]
@[simp] theorem cls_nil : cls [] = true := by simp [cls]
@[simp] theorem cls_cons {p l} : cls (p :: l) = (cl p && cls l) := by simp [cls]
theorem cls_iff : ∀ {l : List PV}, cls l = true ↔ ∀ p ∈ l, cl p = true
  | [] => by simp
  | p :: l => by simp [cls_iff (l := l)]
@[simp] theorem cls_append {l m : List PV} : cls (l ++ m) = (cls l && cls m) := by
  rw [Bool.eq_iff_iff]
  simp only [cls_iff, Bool.and_eq_true, List.mem_append]
  exact ⟨fun h => ⟨fun p hp => h p (.inl hp), fun p hp => h p (.inr hp)⟩, fun h p hp => hp.elim (h.1 p) (h.2 p)⟩
@[simp] theorem cls_ints {l : List Int} : cls (l.map PV.int) = true := cls_iff.mpr fun p hp => by
  obtain ⟨i, _, rfl⟩ := List.mem_map.mp hp
  simp
theorem clip_cl {k : Nat} {st : Store} {p : PV} (h : cl p = true) : clip k st p = some p := mapV_cl h
/-! ### the end of a def -/
def Gc (st : Store) (v : PV) (st' : Store) (Q : PV → Store → Prop) : Prop := ∃ v' s, clip st.length st' v = some v' ∧ gcS st.length st' st st' = some s ∧ Q v' s
section
variable {Q : PV → Store → Prop} {st st' x : Store} {junk : List SO} {v : PV} {n m k s : Nat} {f : DS} {ps : List PV}
theorem wp_dFn (hl : ps.length = n) (h : wps (f (ps.map some ++ List.replicate (m - n) none) st) (fun _ st' => Gc st .non st' Q) (fun v st' => Gc st v st' Q) (fun _ _ => False) (fun _ _ => False)) : wp (dFn n m f ps st) Q := by
  unfold dFn dFnK
  rw [if_pos hl]
  cases q : f (ps.map some ++ List.replicate (m - n) none) st with
  | ok r st' =>
    rw [q] at h
    obtain ⟨fl, σ⟩ := r
    unfold wps at h
    cases fl with
    | nx =>
      obtain ⟨v', s, h1, h2, h3⟩ := h
      simp only [Res.bind, gcR, h1, h2, wp_ok]
      exact h3
    | bk => exact h.elim
    | ct => exact h.elim
    | rt v =>
      obtain ⟨v', s, h1, h2, h3⟩ := h
      simp only [Res.bind, gcR, h1, h2, wp_ok]
      exact h3
  | exc _ _ _ => rw [q] at h; exact (nwsE h).elim
  | fail => rw [q] at h; exact (nwsF h).elim
theorem wp_fn (h : wps (f (ps.map some ++ List.replicate (m - n) none) st) (fun _ st' => Gc st .non st' Q) (fun v st' => Gc st v st' Q) (fun _ _ => False) (fun _ _ => False)) (hl : ps.length = n := by rfl) : wp (dFn n m f ps st) Q := wp_dFn hl h
theorem wp_dFnK (hl : ps.length = n) (h : wps (f (ps.map some ++ List.replicate (m - n) none) st) (fun _ st' => Q .non st') Q (fun _ _ => False) (fun _ _ => False)) : wp (dFnK n m f ps st) Q := by
  unfold dFnK
  rw [if_pos hl]
  cases q : f (ps.map some ++ List.replicate (m - n) none) st with
  | ok r st' =>
    rw [q] at h
    obtain ⟨fl, σ⟩ := r
    unfold wps at h
    cases fl with
    | nx => exact wp_ok.mpr h
    | bk => exact h.elim
    | ct => exact h.elim
    | rt v => exact wp_ok.mpr h
  | exc _ _ _ => rw [q] at h; exact (nwsE h).elim
  | fail => rw [q] at h; exact (nwsF h).elim
theorem gcS_of : ∀ {l x : List SO} {junk : List SO}, x.length = l.length → (∀ (n : Nat) (o o' : SO), l[n]? = some o → x[n]? = some o' → o = o' ∨ clipO k st' o' = some o') → gcS k st' l (x ++ junk) = some x
  | [], [], junk, _, _ => by simp [gcS]
  | [], _ :: _, _, h, _ => by cases h
  | _ :: _, [], _, h, _ => by cases h
  | o :: l, o' :: x, junk, h, hn => by
    have ih := gcS_of (l := l) (x := x) (junk := junk) (by simpa using h) fun n u u' h1 h2 => hn (n + 1) u u' (by simpa using h1) (by simpa using h2)
    have h0 := hn 0 o o' rfl rfl
    simp only [List.cons_append, gcS, ih, Option.map_some]
    have e : gcO k st' o o' = some o' := by
      unfold gcO
      rcases h0 with rfl | h0
      · rw [if_pos rfl]
      · by_cases q : o = o'
        · rw [if_pos q, q]
        · rw [if_neg q]; exact h0
    rw [e]
    rfl
theorem gcS_app {junk : List SO} : gcS k st' st (st ++ junk) = some st := gcS_of rfl fun n o o' h1 h2 => .inl (by rw [h1] at h2; cases h2; rfl)
theorem Gc.pure (hc : cl v = true) (e : st' = st ++ junk) (q : Q v st) : Gc st v st' Q := by
  subst e
  exact ⟨v, st, clip_cl hc, gcS_app, q⟩
theorem Gc.same (hc : cl v = true) (q : Q v st) : Gc st v st Q := Gc.pure (junk := []) hc (by simp) q
theorem Gc.lstP {l : List PV} (hc : cls l = true) (e : st' = st ++ junk) (hn : st.length ≤ n) (hl : st'[n]? = some (.lst l)) (q : Q (.lst l) st) : Gc st (.ref n) st' Q := by
  subst e
  refine ⟨.lst l, st, ?_, gcS_app, q⟩
  simp only [clip, mapV, clipR, if_neg (Nat.not_lt.mpr hn), hl, mapVs_cl hc, Option.map_some]

/-! ### the draws -/
/-- the source at s -/
def SrcAt (st : Store) (s : Nat) : Prop := ∃ a b : Int, st[s]? = some (.lst [.int a, .int b]) ∧ 0 ≤ a ∧ 0 ≤ b
/-- nothing but the source at s is changed -/
def Dr (s : Nat) (st st' : Store) : Prop := st' = st ∨ ∃ a b : Int, 0 ≤ a ∧ 0 ≤ b ∧ st' = st.set s (.lst [.int a, .int b])
theorem SrcAt.lt (h : SrcAt st s) : s < st.length := by
  obtain ⟨a, b, e, _⟩ := h
  exact (List.getElem?_eq_some_iff.mp e).1
theorem Dr.refl : Dr s st st := .inl rfl
theorem Dr.trans {st2 : Store} (h : Dr s st st') (g : Dr s st' st2) : Dr s st st2 := by
  rcases h with rfl | ⟨a, b, h1, h2, rfl⟩
  · exact g
  · rcases g with rfl | ⟨c, d, h3, h4, rfl⟩
    · exact .inr ⟨a, b, h1, h2, rfl⟩
    · exact .inr ⟨c, d, h3, h4, by rw [List.set_set]⟩
theorem Dr.len (h : Dr s st st') : st'.length = st.length := by
  rcases h with rfl | ⟨a, b, h1, h2, rfl⟩
  · rfl
  · simp
theorem Dr.src (hs : SrcAt st s) (h : Dr s st st') : SrcAt st' s := by
  rcases h with rfl | ⟨a, b, h1, h2, rfl⟩
  · exact hs
  · exact ⟨a, b, by rw [List.getElem?_set_self hs.lt], h1, h2⟩
theorem Dr.get (h : Dr s st st') (hn : n ≠ s) : st'[n]? = st[n]? := by
  rcases h with rfl | ⟨a, b, h1, h2, rfl⟩
  · rfl
  · rw [List.getElem?_set_ne (Ne.symm hn)]
theorem SrcAt.app (hs : SrcAt st s) : SrcAt (st ++ junk) s := by
  obtain ⟨a, b, e, h⟩ := hs
  exact ⟨a, b, by rw [List.getElem?_append_left (List.getElem?_eq_some_iff.mp e).1]; exact e, h⟩
theorem Dr.app (hl : s < x.length) (h : Dr s (x ++ junk) st') : ∃ x', st' = x' ++ junk ∧ Dr s x x' := by
  rcases h with rfl | ⟨a, b, h1, h2, rfl⟩
  · exact ⟨x, rfl, .refl⟩
  · exact ⟨_, by rw [List.set_append_left _ _ hl], .inr ⟨a, b, h1, h2, rfl⟩⟩
theorem gcS_dr (h : Dr s st x) : gcS k st' st (x ++ junk) = some x := gcS_of h.len fun n o o' h1 h2 => by
  rcases h with rfl | ⟨a, b, h3, h4, rfl⟩
  · exact .inl (by rw [h1] at h2; cases h2; rfl)
  · by_cases e : s = n
    · subst e
      rw [List.getElem?_set_self (List.getElem?_eq_some_iff.mp h1).1] at h2
      cases h2
      exact .inr (by simp [clipO, mapVs, mapV])
    · rw [List.getElem?_set_ne e] at h2
      exact .inl (by rw [h1] at h2; cases h2; rfl)
theorem Gc.dr (hc : cl v = true) (h : Dr s st x) (e : st' = x ++ junk) (q : Q v x) : Gc st v st' Q := by
  subst e
  exact ⟨v, x, clip_cl hc, gcS_dr h, q⟩
theorem Gc.dr0 (hc : cl v = true) (h : Dr s st st') (q : Q v st') : Gc st v st' Q := Gc.dr (junk := []) hc h (by simp) q
theorem Gc.lst {l : List PV} (hc : cls l = true) (h : Dr s st x) (e : st' = x ++ junk) (hn : st.length ≤ n) (hl : st'[n]? = some (.lst l)) (q : Q (.lst l) x) : Gc st (.ref n) st' Q := by
  subst e
  refine ⟨.lst l, x, ?_, gcS_dr h, q⟩
  simp only [clip, mapV, clipR, if_neg (Nat.not_lt.mpr hn), hl, mapVs_cl hc, Option.map_some]
theorem Gc.dT {es : List (List Key × PV)} (hc : cls (es.map (·.2)) = true) (h : Dr s st x) (e : st' = x ++ junk) (hn : st.length ≤ n) (hl : st'[n]? = some (.dT es)) (q : Q (.dT (es.map (·.1)) (es.map (·.2))) x) : Gc st (.ref n) st' Q := by
  subst e
  refine ⟨_, x, ?_, gcS_dr h, q⟩
  simp only [clip, mapV, clipR, if_neg (Nat.not_lt.mpr hn), hl, mapVs_cl hc, Option.map_some]

/-! ### lists that change -/
theorem app_get (h : x.length = k) {i : Nat} : (x ++ junk)[k + i]? = junk[i]? := by
  rw [List.getElem?_append_right (by omega)]
  congr 1
  omega
theorem app_get0 (h : x.length = k) : (x ++ junk)[k]? = junk[0]? := app_get (i := 0) h
theorem app_set (h : x.length = k) {i : Nat} {o : SO} : (x ++ junk).set (k + i) o = x ++ junk.set i o := by
  rw [List.set_append_right _ _ (by omega)]
  congr 2
  omega
theorem app_set0 (h : x.length = k) {o : SO} : (x ++ junk).set k o = x ++ junk.set 0 o := app_set (i := 0) h
theorem app_pre (h : n < x.length) : (x ++ junk)[n]? = x[n]? := List.getElem?_append_left h
variable {σ : AE} {g : DE} {fs : DA}
@[simp] theorem wp_dM {chk : PV → Store → Bool} {d : PV → List PV → M PV} : wp (dM chk d g fs σ st) Q = wp (g σ st) fun x st => chk x st = true ∧ wp (fs σ st) fun xs st => wp (d x xs st) Q := by
  simp only [dM, wp_bind]
  congr 1; funext x st
  by_cases h : chk x st = true <;> simp [h]
@[simp] theorem wp_dM0 {chk : PV → Store → Bool} {d : PV → List PV → M PV} : wp (dM0 chk d g σ st) Q = wp (g σ st) fun x st => chk x st = true ∧ wp (d x [] st) Q := by
  simp only [dM0, wp_bind]
  congr 1; funext x st
  by_cases h : chk x st = true <;> simp [h]
theorem isL_ref {l : List PV} (h : st[n]? = some (.lst l)) : isL (.ref n) st = true := by simp [isL, asL, h]
theorem wp_append {l : List PV} {y : PV} (h : st[n]? = some (.lst l)) (hz : l.length < SZ) (q : Q .non (st.set n (.lst (l ++ [y])))) : wp (mAppend (.ref n) [y] st) Q := by
  simp only [mAppend, refL, h]
  rw [if_pos hz]
  exact wp_ok.mpr q
theorem wp_extend {l m : List PV} {y : PV} (h : st[n]? = some (.lst l)) (hy : asL y st = some m) (hz : l.length + m.length ≤ SZ) (q : Q .non (st.set n (.lst (l ++ m)))) : wp (mExtend (.ref n) [y] st) Q := by
  simp only [mExtend, refL, h, hy]
  rw [if_pos hz]
  exact wp_ok.mpr q
theorem wp_setL {l : List PV} {i : Int} {y : PV} {j : Nat} {QU : Unit → Store → Prop} (h : st[n]? = some (.lst l)) (hj : ixN l.length i = some j) (q : QU () (st.set n (.lst (l.set j y)))) : wp (pSet (.ref n) (.int i) y st) QU := by
  simp only [pSet, h, hj]
  exact wp_ok.mpr q
theorem ixN_nat {n i : Nat} (h : i < n) : ixN n (i : Int) = some i := by
  unfold ixN
  rw [if_pos (by omega), if_pos (by omega)]
  simp
theorem ixN_int {n : Nat} {i : Int} (h0 : 0 ≤ i) (h : i < n) : ixN n i = some i.toNat := by
  unfold ixN
  rw [if_pos h0, if_pos h]
theorem atI_int {α : Type} {l : List α} {i : Int} (h0 : 0 ≤ i) (h : i < l.length) : atI l i = l[i.toNat]? := by
  unfold atI
  rw [ixN_int h0 h]
  rfl
theorem atI_some {α : Type} {l : List α} {i : Int} (h0 : 0 ≤ i) (h : i < l.length) : ∃ v, atI l i = some v ∧ v ∈ l ∧ l[i.toNat]? = some v := by
  have hl : i.toNat < l.length := by omega
  exact ⟨l[i.toNat], by rw [atI_int h0 h, List.getElem?_eq_getElem hl], List.getElem_mem hl, List.getElem?_eq_getElem hl⟩
@[simp] theorem atI_zero {α : Type} {a : α} {l : List α} : atI (a :: l) 0 = some a := by
  rw [atI_int (by omega) (by simp only [List.length_cons]; omega)]
  rfl
@[simp] theorem atI_one {α : Type} {a b : α} {l : List α} : atI (a :: b :: l) 1 = some b := by
  rw [atI_int (by omega) (by simp only [List.length_cons]; omega)]
  rfl
@[simp] theorem atI_two {α : Type} {a b c : α} {l : List α} : atI (a :: b :: c :: l) 2 = some c := by
  rw [atI_int (by omega) (by simp only [List.length_cons]; omega)]
  rfl
end
end DN
set_option Elab.async false
set_option linter.all false
set_option maxRecDepth 100000
set_option maxHeartbeats 2000000
/-! DnWp3: data: ==, in. -/
namespace DN
open PySem PySem.Spec PyProof.Rows L2
/-- data without truths, n deep at most -/
def dpv : Nat → PV → Bool
  | _, .non => true
  | _, .int _ => true
  | _, .str x => PyData.strOk x
  | n + 1, .tup l => l.all (dpv n)
  | n + 1, .lst l => l.all (dpv n)
  | _, _ => false
theorem toD0s_of {R : PyData → Prop} {l : List PV} (h : ∀ p ∈ l, ∃ d, toD0 p = some d ∧ R d) : ∃ ds, toD0s l = some ds ∧ ∀ d ∈ ds, R d := by
  induction l with
  | nil => exact ⟨[], by simp [toD0s], by simp⟩
  | cons p l ih =>
    obtain ⟨d, e1, r1⟩ := h p List.mem_cons_self
    obtain ⟨ds, e2, r2⟩ := ih fun q hq => h q (List.mem_cons_of_mem _ hq)
    exact ⟨d :: ds, by simp [toD0s, e1, e2], by simpa using ⟨r1, r2⟩⟩
theorem canLayAll_of {n : Nat} : ∀ {ds : List PyData}, (∀ d ∈ ds, PyData.canLay0 d = true ∧ PyData.depth d ≤ n) → PyData.canLayAll0 ds = true ∧ PyData.depthAll ds ≤ n
  | [], _ => by simp [PyData.canLayAll0, PyData.depthAll]
  | d :: ds, h => by
    have a := h d List.mem_cons_self
    have ih := canLayAll_of (ds := ds) fun q hq => h q (List.mem_cons_of_mem _ hq)
    simp only [PyData.canLayAll0, PyData.depthAll, a.1, ih.1, Bool.and_self, true_and]
    exact Nat.max_le.mpr ⟨a.2, ih.2⟩
theorem dpv_d : ∀ (n : Nat) (p : PV), dpv n p = true → ∃ d, toD0 p = some d ∧ PyData.canLay0 d = true ∧ PyData.depth d ≤ n := by
  intro n
  induction n with
  | zero =>
    intro p h
    cases p <;> simp [dpv] at h <;> simp_all [toD0, PyData.canLay0, PyData.depth]
  | succ n ih =>
    intro p h
    cases p with
    | tup l =>
      simp only [dpv, List.all_eq_true] at h
      obtain ⟨ds, e, r⟩ := toD0s_of (l := l) fun p hp => ih p (h p hp)
      have z := canLayAll_of r
      exact ⟨.tuple ds, by simp [toD0, e], by simpa [PyData.canLay0] using z.1, by simpa [PyData.depth] using z.2⟩
    | lst l =>
      simp only [dpv, List.all_eq_true] at h
      obtain ⟨ds, e, r⟩ := toD0s_of (l := l) fun p hp => ih p (h p hp)
      have z := canLayAll_of r
      exact ⟨.list ds, by simp [toD0, e], by simpa [PyData.canLay0] using z.1, by simpa [PyData.depth] using z.2⟩
    | _ => simp [dpv] at h <;> simp_all [toD0, PyData.canLay0, PyData.depth]
theorem shaped_of {d : PyData} (h : PyData.canLay0 d = true) (hd : PyData.depth d ≤ 64) : SeqAt.shaped d = true := by
  simp [SeqAt.shaped, h, hd]
/-- truths are no numbers here -/
def cleanD : Nat → PyData → Bool
  | _, .none => true
  | _, .int _ => true
  | _, .str _ => true
  | n + 1, .tuple l => l.all (cleanD n)
  | n + 1, .list l => l.all (cleanD n)
  | _, _ => false
theorem dpv_clean : ∀ (n : Nat) (p : PV) (d : PyData), dpv n p = true → toD0 p = some d → cleanD n d = true := by
  intro n
  induction n with
  | zero =>
    intro p d h e
    cases p <;> simp [dpv] at h <;> simp [toD0] at e <;> subst e <;> rfl
  | succ n ih =>
    have key : ∀ (l : List PV) (ds : List PyData), l.all (dpv n) = true → toD0s l = some ds → ds.all (cleanD n) = true := by
      intro l
      induction l with
      | nil => intro ds _ e; simp [toD0s] at e; subst e; rfl
      | cons p l ih2 =>
        intro ds h e
        simp only [List.all_cons, Bool.and_eq_true] at h
        simp only [toD0s] at e
        obtain ⟨d, e1, e⟩ := Option.bind_eq_some_iff.mp e
        obtain ⟨ds', e2, rfl⟩ := Option.map_eq_some_iff.mp e
        simp [ih p d h.1 e1, ih2 ds' h.2 e2]
    intro p d h e
    cases p with
    | tup l =>
      simp only [dpv] at h
      simp only [toD0] at e
      obtain ⟨ds, e1, rfl⟩ := Option.map_eq_some_iff.mp e
      exact key l ds h e1
    | lst l =>
      simp only [dpv] at h
      simp only [toD0] at e
      obtain ⟨ds, e1, rfl⟩ := Option.map_eq_some_iff.mp e
      exact key l ds h e1
    | _ => simp [dpv] at h <;> (simp [toD0] at e) <;> subst e <;> rfl
theorem eqv_clean : ∀ (n : Nat) (d e : PyData), cleanD n d = true → cleanD n e = true → (PyData.eqv d e = true ↔ d = e) := by
  intro n
  induction n with
  | zero =>
    intro d e h1 h2
    cases d <;> simp [cleanD] at h1 <;> cases e <;> simp [cleanD] at h2 <;> simp [PyData.eqv]
  | succ n ih =>
    have key : ∀ (l m : List PyData), l.all (cleanD n) = true → m.all (cleanD n) = true → (PyData.eqvAll l m = true ↔ l = m) := by
      intro l
      induction l with
      | nil => intro m _ _; cases m <;> simp [PyData.eqvAll]
      | cons a l ih2 =>
        intro m h1 h2
        cases m with
        | nil => simp [PyData.eqvAll]
        | cons b m =>
          simp only [List.all_cons, Bool.and_eq_true] at h1 h2
          simp only [PyData.eqvAll, Bool.and_eq_true, List.cons.injEq]
          rw [ih a b h1.1 h2.1, ih2 m h1.2 h2.2]
    intro d e h1 h2
    cases d <;> simp [cleanD] at h1 <;> cases e <;> simp [cleanD] at h2 <;> simp only [PyData.eqv, reduceCtorEq, Bool.false_eq_true, beq_iff_eq, PyData.int.injEq, PyData.str.injEq, PyData.list.injEq, PyData.tuple.injEq]
    · exact key _ _ (by simpa using h1) (by simpa using h2)
    · exact key _ _ (by simpa using h1) (by simpa using h2)
theorem toD0_inj : ∀ (n : Nat) (p q : PV) (d : PyData), dpv n p = true → dpv n q = true → toD0 p = some d → toD0 q = some d → p = q := by
  intro n
  induction n with
  | zero =>
    intro p q d h1 h2 e1 e2
    cases p <;> simp [dpv] at h1 <;> cases q <;> simp [dpv] at h2 <;> simp [toD0] at e1 e2 <;> subst e1 <;> simp_all
  | succ n ih =>
    have key : ∀ (l m : List PV) (ds : List PyData), l.all (dpv n) = true → m.all (dpv n) = true → toD0s l = some ds → toD0s m = some ds → l = m := by
      intro l
      induction l with
      | nil =>
        intro m ds _ _ e1 e2
        simp [toD0s] at e1
        subst e1
        cases m with
        | nil => rfl
        | cons b m =>
          simp only [toD0s] at e2
          obtain ⟨d, _, e⟩ := Option.bind_eq_some_iff.mp e2
          obtain ⟨_, _, e⟩ := Option.map_eq_some_iff.mp e
          cases e
      | cons a l ih2 =>
        intro m ds h1 h2 e1 e2
        simp only [toD0s] at e1
        obtain ⟨d, a1, e⟩ := Option.bind_eq_some_iff.mp e1
        obtain ⟨ds', a2, rfl⟩ := Option.map_eq_some_iff.mp e
        cases m with
        | nil => simp [toD0s] at e2
        | cons b m =>
          simp only [toD0s] at e2
          obtain ⟨d2, b1, e⟩ := Option.bind_eq_some_iff.mp e2
          obtain ⟨ds2, b2, e⟩ := Option.map_eq_some_iff.mp e
          cases e
          simp only [List.all_cons, Bool.and_eq_true] at h1 h2
          rw [ih a b d h1.1 h2.1 a1 b1, ih2 m ds' h1.2 h2.2 a2 b2]
    intro p q d h1 h2 e1 e2
    match p, q, h1, h2, e1, e2 with
    | .tup l, .tup m, h1, h2, e1, e2 =>
      simp only [toD0] at e1 e2
      obtain ⟨ds, e3, rfl⟩ := Option.map_eq_some_iff.mp e1
      obtain ⟨ds2, e4, e⟩ := Option.map_eq_some_iff.mp e2
      cases e
      rw [key l m ds (by simpa only [dpv] using h1) (by simpa only [dpv] using h2) e3 e4]
    | .lst l, .lst m, h1, h2, e1, e2 =>
      simp only [toD0] at e1 e2
      obtain ⟨ds, e3, rfl⟩ := Option.map_eq_some_iff.mp e1
      obtain ⟨ds2, e4, e⟩ := Option.map_eq_some_iff.mp e2
      cases e
      rw [key l m ds (by simpa only [dpv] using h1) (by simpa only [dpv] using h2) e3 e4]
    | .tup l, .lst m, h1, h2, e1, e2 =>
      simp only [toD0] at e1 e2
      obtain ⟨ds, e3, rfl⟩ := Option.map_eq_some_iff.mp e1
      obtain ⟨ds2, e4, e⟩ := Option.map_eq_some_iff.mp e2
      cases e
    | .lst l, .tup m, h1, h2, e1, e2 =>
      simp only [toD0] at e1 e2
      obtain ⟨ds, e3, rfl⟩ := Option.map_eq_some_iff.mp e1
      obtain ⟨ds2, e4, e⟩ := Option.map_eq_some_iff.mp e2
      cases e
    | .non, q, h1, h2, e1, e2 => cases q <;> simp [toD0, dpv] at e1 e2 h2 <;> subst e1 <;> simp_all
    | .int i, q, h1, h2, e1, e2 => cases q <;> simp [toD0, dpv] at e1 e2 h2 <;> subst e1 <;> simp_all
    | .str i, q, h1, h2, e1, e2 => cases q <;> simp [toD0, dpv] at e1 e2 h2 <;> subst e1 <;> simp_all
    | .tup l, .non, h1, h2, e1, e2 => simp [toD0] at e1 e2; subst e2; simp at e1
    | .tup l, .int _, h1, h2, e1, e2 => simp [toD0] at e1 e2; subst e2; simp at e1
    | .tup l, .str _, h1, h2, e1, e2 => simp [toD0] at e1 e2; subst e2; simp at e1
    | .lst l, .non, h1, h2, e1, e2 => simp [toD0] at e1 e2; subst e2; simp at e1
    | .lst l, .int _, h1, h2, e1, e2 => simp [toD0] at e1 e2; subst e2; simp at e1
    | .lst l, .str _, h1, h2, e1, e2 => simp [toD0] at e1 e2; subst e2; simp at e1
    | .bl _, _, h1, _, _, _ => simp [dpv] at h1
    | .dK _ _, _, h1, _, _, _ => simp [dpv] at h1
    | .dT _ _, _, h1, _, _, _ => simp [dpv] at h1
    | .ref _, _, h1, _, _, _ => simp [dpv] at h1
    | .con _, _, h1, _, _, _ => simp [dpv] at h1
    | .ty _, _, h1, _, _, _ => simp [dpv] at h1
    | .scr _, _, h1, _, _, _ => simp [dpv] at h1
    | _, .bl _, _, h1, _, _ => simp [dpv] at h1
    | _, .dK _ _, _, h1, _, _ => simp [dpv] at h1
    | _, .dT _ _, _, h1, _, _ => simp [dpv] at h1
    | _, .ref _, _, h1, _, _ => simp [dpv] at h1
    | _, .con _, _, h1, _, _ => simp [dpv] at h1
    | _, .ty _, _, h1, _, _ => simp [dpv] at h1
    | _, .scr _, _, h1, _, _ => simp [dpv] at h1
theorem eqv_dpv {n : Nat} {p q : PV} {d e : PyData} (hp : dpv n p = true) (hq : dpv n q = true) (h1 : toD0 p = some d) (h2 : toD0 q = some e) : PyData.eqv d e = true ↔ p = q := by
  rw [eqv_clean n d e (dpv_clean n p d hp h1) (dpv_clean n q e hq h2)]
  constructor
  · intro z
    subst z
    exact toD0_inj n p q d hp hq h1 h2
  · intro z
    subst z
    rw [h1] at h2
    exact Option.some.inj h2
open Classical in
theorem pEqB_dpv {x y : PV} {st : Store} (hx : dpv 64 x = true) (hy : dpv 64 y = true) : pEqB x y st = .ok (decide (x = y)) st := by
  obtain ⟨d, e1, c1, z1⟩ := dpv_d 64 x hx
  obtain ⟨e, e2, c2, z2⟩ := dpv_d 64 y hy
  have gen : pEqB x y st = .ok (PyData.eqv d e) st → pEqB x y st = .ok (decide (x = y)) st := fun h => by
    rw [h]
    congr 1
    rw [Bool.eq_iff_iff, decide_eq_true_eq]
    exact eqv_dpv hx hy e1 e2
  have t1 : toD x st = some d := by cases x <;> first | exact e1 | (simp [dpv] at hx)
  have t2 : toD y st = some e := by cases y <;> first | exact e2 | (simp [dpv] at hy)
  apply gen
  unfold pEqB
  split
  · simp only [toD0, Option.some.injEq] at e1 e2; subst e1 e2; simp [PyData.eqv]; congr
  · simp only [toD0, Option.some.injEq] at e1 e2; subst e1 e2; simp [PyData.eqv]; congr
  · rw [t1, t2]
    simp only [shaped_of c1 z1, shaped_of c2 z2, and_self, if_true]
section
variable {Q : PV → Store → Prop} {st : Store} {x y : PV} {l : List PV}
open Classical in
theorem wp_eqD (hx : dpv 64 x = true) (hy : dpv 64 y = true) : wp (pEq x y st) Q = Q (.bl (decide (x = y))) st := by
  simp only [pEq, pEqB_dpv hx hy, Res.bind, wp_ok]
open Classical in
theorem wp_neD (hx : dpv 64 x = true) (hy : dpv 64 y = true) : wp (pNe x y st) Q = Q (.bl (!decide (x = y))) st := by
  simp only [pNe, pEqB_dpv hx hy, Res.bind, wp_ok]
theorem any_dpv {n : Nat} : ∀ {l : List PV} {ds : List PyData} {d : PyData}, dpv n x = true → toD0 x = some d → l.all (dpv n) = true → toD0s l = some ds → ((ds.any fun z => PyData.eqv z d) = true ↔ x ∈ l)
  | [], ds, d, _, _, _, e => by simp [toD0s] at e; subst e; simp
  | p :: l, ds, d, hx, hd, h, e => by
    simp only [toD0s] at e
    obtain ⟨d', a1, e⟩ := Option.bind_eq_some_iff.mp e
    obtain ⟨ds', a2, rfl⟩ := Option.map_eq_some_iff.mp e
    simp only [List.all_cons, Bool.and_eq_true] at h
    simp only [List.any_cons, Bool.or_eq_true, List.mem_cons]
    rw [any_dpv hx hd h.2 a2, eqv_dpv h.1 hx a1 hd]
    exact ⟨fun z => z.imp Eq.symm id, fun z => z.imp Eq.symm id⟩
open Classical in
theorem pInB_dpv {y : PV} (hy : y = .tup l ∨ y = .lst l) (hx : dpv 63 x = true) (hl : l.all (dpv 63) = true) : pInB x y st = .ok (decide (x ∈ l)) st := by
  have hx64 : dpv 63 x = true := hx
  obtain ⟨d, e1, c1, z1⟩ := dpv_d 63 x hx
  have t1 : toD x st = some d := by cases x <;> first | exact e1 | (simp [dpv] at hx)
  have hy64 : dpv 64 y = true := by rcases hy with rfl | rfl <;> simpa [dpv] using hl
  obtain ⟨e, e2, c2, z2⟩ := dpv_d 64 y hy64
  have s1 := shaped_of c1 (Nat.le_succ_of_le z1)
  have s2 := shaped_of c2 z2
  rcases hy with rfl | rfl
  · simp only [toD0] at e2
    obtain ⟨ds, e3, rfl⟩ := Option.map_eq_some_iff.mp e2
    have g : dGet (.tup l) x st = none := rfl
    have t2 : toD (.tup l) st = some (.tuple ds) := by simp only [toD, toD0, e3, Option.map_some]
    unfold pInB
    rw [g]
    have m : (ds.any fun z => PyData.eqv z d) = decide (x ∈ l) := by rw [Bool.eq_iff_iff, decide_eq_true_eq]; exact any_dpv hx e1 hl e3
    cases x <;> (try (simp [dpv] at hx)) <;> simp only [t1, t2, s1, s2, and_self, if_true, m]
  · simp only [toD0] at e2
    obtain ⟨ds, e3, rfl⟩ := Option.map_eq_some_iff.mp e2
    have g : dGet (.lst l) x st = none := rfl
    have t2 : toD (.lst l) st = some (.list ds) := by simp only [toD, toD0, e3, Option.map_some]
    unfold pInB
    rw [g]
    have m : (ds.any fun z => PyData.eqv z d) = decide (x ∈ l) := by rw [Bool.eq_iff_iff, decide_eq_true_eq]; exact any_dpv hx e1 hl e3
    cases x <;> (try (simp [dpv] at hx)) <;> simp only [t1, t2, s1, s2, and_self, if_true, m]
open Classical in
theorem wp_inT (hx : dpv 63 x = true) (hl : l.all (dpv 63) = true) : wp (pIn x (.tup l) st) Q = Q (.bl (decide (x ∈ l))) st := by
  simp only [pIn, pInB_dpv (.inl rfl) hx hl, Res.bind, wp_ok]
open Classical in
theorem wp_inL (hx : dpv 63 x = true) (hl : l.all (dpv 63) = true) : wp (pIn x (.lst l) st) Q = Q (.bl (decide (x ∈ l))) st := by
  simp only [pIn, pInB_dpv (.inr rfl) hx hl, Res.bind, wp_ok]
open Classical in
theorem wp_notInT (hx : dpv 63 x = true) (hl : l.all (dpv 63) = true) : wp (pNotIn x (.tup l) st) Q = Q (.bl (!decide (x ∈ l))) st := by
  simp only [pNotIn, pInB_dpv (.inl rfl) hx hl, Res.bind, wp_ok]
open Classical in
theorem wp_notInL (hx : dpv 63 x = true) (hl : l.all (dpv 63) = true) : wp (pNotIn x (.lst l) st) Q = Q (.bl (!decide (x ∈ l))) st := by
  simp only [pNotIn, pInB_dpv (.inr rfl) hx hl, Res.bind, wp_ok]
end
theorem dpv_mono : ∀ {n m : Nat} {p : PV}, n ≤ m → dpv n p = true → dpv m p = true := by
  intro n
  induction n with
  | zero => intro m p _ h; cases p <;> simp [dpv] at h <;> cases m <;> simp [dpv, h]
  | succ n ih =>
    intro m p hm h
    cases m with
    | zero => omega
    | succ m =>
      cases p with
      | tup l => simp only [dpv, List.all_eq_true] at h ⊢; exact fun q hq => ih (by omega) (h q hq)
      | lst l => simp only [dpv, List.all_eq_true] at h ⊢; exact fun q hq => ih (by omega) (h q hq)
      | _ => first | (simp [dpv] at h; done) | simpa [dpv] using h
end DN
set_option Elab.async false
set_option linter.all false
set_option maxRecDepth 100000
set_option maxHeartbeats 2000000
/-! DnWp4: while, dicts, sorted, pop. -/
namespace DN
open PySem PySem.Spec PyProof.Rows L2
section
variable {Q : PV → Store → Prop} {QB : Bool → Store → Prop} {st : Store} {σ : AE} {N : AE → Store → Prop} {R : PV → Store → Prop} {B C : AE → Store → Prop} {c : DB} {b : DS} {w : List Nat}
theorem whileN_more : ∀ (n k : Nat) (σ : AE) (st : Store), whileN c b w n σ st ≠ .fail → whileN c b w (n + k) σ st = whileN c b w n σ st
  | 0, _, _, _, h => (h rfl).elim
  | n + 1, k, σ, st, h => by
    rw [show n + 1 + k = (n + k) + 1 by omega]
    unfold whileN at h ⊢
    cases q : c σ st with
    | ok t st1 =>
      rw [q] at h
      simp only [Res.bind] at h ⊢
      cases t with
      | false => rfl
      | true =>
        simp only [if_true] at h ⊢
        cases q2 : b σ st1 with
        | ok r st2 =>
          rw [q2] at h
          obtain ⟨fl, σ2⟩ := r
          cases fl with
          | nx => exact whileN_more n k _ _ h
          | ct => exact whileN_more n k _ _ h
          | bk => rfl
          | rt v => rfl
        | exc _ _ _ => rfl
        | fail => rfl
    | exc _ _ _ => rfl
    | fail => rfl
theorem sWhile_of {n : Nat} (h : whileN c b w n σ st ≠ .fail) : sWhile c b w σ st = whileN c b w n σ st := by
  have e : ∃ n, whileN c b w n σ st ≠ .fail := ⟨n, h⟩
  unfold sWhile
  rw [dif_pos e]
  have h2 := Classical.choose_spec e
  rcases Nat.le_total n (Classical.choose e) with z | z
  · obtain ⟨k, hk⟩ := Nat.le.dest z
    rw [← hk]
    exact whileN_more n k σ st h
  · obtain ⟨k, hk⟩ := Nat.le.dest z
    rw [← hk]
    exact (whileN_more _ k σ st h2).symm
theorem wps_nf {s : Res (Fl × AE)} (h : wps s N R B C) : s ≠ .fail := by
  rintro rfl
  exact nwsF h
theorem wps_while (I : Nat → AE → Store → Prop) (hs : ∀ n σ st, I n σ st → wp (c σ st) fun k st1 => cnd k (wps (b σ st1) (fun σ2 st2 => ∃ m, m < n ∧ I m (wipeA σ2 w) st2) R (fun σ2 st2 => N (wipeA σ2 w) st2) (fun σ2 st2 => ∃ m, m < n ∧ I m (wipeA σ2 w) st2)) (N σ st1)) (n : Nat) (h : I n σ st) : wps (sWhile c b w σ st) N R B C := by
  have key : ∀ n σ st, I n σ st → wps (whileN c b w (n + 1) σ st) N R B C := by
    intro n
    induction n using Nat.strongRecOn with
    | ind n ih =>
      intro σ st h
      have h1 := hs n σ st h
      unfold whileN
      cases q : c σ st with
      | ok t st1 =>
        rw [q] at h1
        simp only [wp_ok] at h1
        simp only [Res.bind]
        cases t with
        | false => simp only [cnd_false] at h1; exact wps_nx.mpr h1
        | true =>
          simp only [cnd_true] at h1
          simp only [if_true]
          have go : ∀ σ2 st2, (∃ m, m < n ∧ I m (wipeA σ2 w) st2) → wps (whileN c b w n (wipeA σ2 w) st2) N R B C := by
            rintro σ2 st2 ⟨m, hm, hI⟩
            have h2 := ih m hm _ _ hI
            obtain ⟨k, hk⟩ := Nat.le.dest (show m + 1 ≤ n by omega)
            rw [← hk, whileN_more _ _ _ _ (wps_nf h2)]
            exact h2
          cases q2 : b σ st1 with
          | ok r st2 =>
            rw [q2] at h1
            obtain ⟨fl, σ2⟩ := r
            cases fl with
            | nx => have h2 := wps_nx.mp h1; exact go _ _ h2
            | ct => have h2 := wps_ct.mp h1; exact go _ _ h2
            | bk => have h2 := wps_bk.mp h1; exact wps_nx.mpr h2
            | rt v => have h2 := wps_rt.mp h1; exact wps_rt.mpr h2
          | exc _ _ _ => rw [q2] at h1; exact (nwsE h1).elim
          | fail => rw [q2] at h1; exact (nwsF h1).elim
      | exc _ _ _ => rw [q] at h1; exact (nwE h1).elim
      | fail => rw [q] at h1; exact (nwF h1).elim
  have h2 := key n σ st h
  rw [sWhile_of (wps_nf h2)]
  exact h2
/-! loops whose invariant stays closed in the step -/
theorem wps_forRo {t : DT} {hi lo : Int} (P : Int → AE → Store → Prop) (hs : ∀ I : Int → AE → Store → Prop, (∀ i σ st, P i σ st → I i σ st) → ∀ i σ st, P i σ st → i < hi → wp (t (.int i) σ st) fun σ1 st1 => wps (b σ1 st1) (fun σ2 st2 => I (i + 1) (wipeA σ2 w) st2) R (fun σ2 st2 => N (wipeA σ2 w) st2) (fun σ2 st2 => I (i + 1) (wipeA σ2 w) st2))
    (hf : ∀ i σ st, P i σ st → hi ≤ i → N (wipeA σ w) st) (h : P lo σ st) : wps (forL t b w (fun _ => true) (rgP lo hi) σ st) N R B C := wps_forR P (hs P fun _ _ _ h => h) hf lo σ st h
theorem wps_forLo {t : DT} (P : List PV → AE → Store → Prop) (l : List PV) (hs : ∀ I : List PV → AE → Store → Prop, (∀ i σ st, P i σ st → I i σ st) → ∀ p r σ st, P (p :: r) σ st → wp (t p σ st) fun σ1 st1 => wps (b σ1 st1) (fun σ2 st2 => I r (wipeA σ2 w) st2) R (fun σ2 st2 => N (wipeA σ2 w) st2) (fun σ2 st2 => I r (wipeA σ2 w) st2))
    (hf : ∀ σ st, P [] σ st → N (wipeA σ w) st) (h : P l σ st) : wps (forL t b w (fun _ => true) l σ st) N R B C := wps_forL P l σ st h (hs P fun _ _ _ h => h) hf
/-- a walk over the images of these -/
theorem wps_forM {α : Type} {g : α → PV} {t : DT} (P : List α → AE → Store → Prop) (l : List α) (hs : ∀ I : List α → AE → Store → Prop, (∀ i σ st, P i σ st → I i σ st) → ∀ p r σ st, P (p :: r) σ st → wp (t (g p) σ st) fun σ1 st1 => wps (b σ1 st1) (fun σ2 st2 => I r (wipeA σ2 w) st2) R (fun σ2 st2 => N (wipeA σ2 w) st2) (fun σ2 st2 => I r (wipeA σ2 w) st2))
    (hf : ∀ σ st, P [] σ st → N (wipeA σ w) st) (h : P l σ st) : wps (forL t b w (fun _ => true) (l.map g) σ st) N R B C := by
  refine wps_forL (fun m σ st => ∃ r, m = r.map g ∧ P r σ st) _ σ st ⟨l, rfl, h⟩ ?_ ?_
  · rintro p m σ st ⟨r, e, h⟩
    cases r with
    | nil => cases e
    | cons a r =>
      cases e
      refine wp_mono (hs P (fun _ _ _ h => h) a r σ st h) fun σ1 st1 h => ?_
      exact wps_mono h (fun σ st h => ⟨_, rfl, h⟩) (fun _ _ h => h) (fun _ _ h => h) (fun σ st h => ⟨_, rfl, h⟩)
  · rintro σ st ⟨r, e, h⟩
    cases r with
    | nil => exact hf σ st h
    | cons a r => cases e
theorem wps_whileO (P : Nat → AE → Store → Prop) (hs : ∀ I : Nat → AE → Store → Prop, (∀ i σ st, P i σ st → I i σ st) → ∀ n σ st, P n σ st → wp (c σ st) fun k st1 => cnd k (wps (b σ st1) (fun σ2 st2 => ∃ m, m < n ∧ I m (wipeA σ2 w) st2) R (fun σ2 st2 => N (wipeA σ2 w) st2) (fun σ2 st2 => ∃ m, m < n ∧ I m (wipeA σ2 w) st2)) (N σ st1)) (n : Nat) (h : P n σ st) : wps (sWhile c b w σ st) N R B C :=
  wps_while P (hs P fun _ _ _ h => h) n h
/-- a comprehension over the images of these -/
theorem wp_lcM {α : Type} {g : α → PV} {t : DT} {c : DB} {e : DE} {QL : List PV → Store → Prop} (P : List α → List PV → Store → Prop) (l : List α) (st : Store)
    (hs : ∀ I : List α → List PV → Store → Prop, (∀ i σ st, P i σ st → I i σ st) → ∀ p r acc st, P (p :: r) acc st → wp (t (g p) σ st) fun σ1 st1 => wp (c σ1 st1) fun b st2 => cnd b (wp (e σ1 st2) fun v st3 => I r (acc ++ [v]) st3) (I r acc st2))
    (hf : ∀ acc st, P [] acc st → QL acc st) (h : P l [] st) : wp (lcI t c e (fun _ => true) σ (l.map g) st) QL := by
  refine wp_lcI (fun acc m st => ∃ r, m = r.map g ∧ P r acc st) _ st ⟨l, rfl, h⟩ ?_ ?_
  · rintro acc p m st ⟨r, e, h⟩
    cases r with
    | nil => cases e
    | cons a r =>
      cases e
      refine wp_mono (hs P (fun _ _ _ h => h) a r acc st h) fun σ1 st1 h => wp_mono h fun b st2 h => ?_
      cases b with
      | true =>
        simp only [cnd_true] at h ⊢
        exact wp_mono h fun v st3 h => ⟨r, rfl, h⟩
      | false =>
        simp only [cnd_false] at h ⊢
        exact ⟨r, rfl, h⟩
  · rintro acc st ⟨r, e, h⟩
    cases r with
    | nil => exact hf acc st h
    | cons a r => cases e
/-- nothing changes: what is kept, and what of it -/
theorem wp_lcF {α : Type} {g : α → PV} {t : DT} {c : DB} {e : DE} {QL : List PV → Store → Prop} (keep : α → Bool) (v : α → PV) (l : List α)
    (hs : ∀ p ∈ l, wp (t (g p) σ st) fun σ1 st1 => wp (c σ1 st1) fun b st2 => st2 = st ∧ b = keep p ∧ (b = true → wp (e σ1 st2) fun u st3 => u = v p ∧ st3 = st)) (hf : QL ((l.filter keep).map v) st) : wp (lcI t c e (fun _ => true) σ (l.map g) st) QL := by
  refine wp_lcM (fun r acc st' => st' = st ∧ acc ++ (r.filter keep).map v = (l.filter keep).map v ∧ ∀ p ∈ r, p ∈ l) l st ?_ ?_ ⟨rfl, by simp, fun p h => h⟩
  · rintro I hI p r acc st' ⟨rfl, h1, h2⟩
    refine wp_mono (hs p (h2 p List.mem_cons_self)) fun σ1 st1 h => wp_mono h fun b st2 ⟨e1, e2, h⟩ => ?_
    subst e1
    cases b with
    | true =>
      simp only [cnd_true]
      refine wp_mono (h rfl) fun u st3 ⟨e3, e4⟩ => ?_
      subst e3 e4
      refine hI _ _ _ ⟨rfl, ?_, fun q hq => h2 q (List.mem_cons_of_mem _ hq)⟩
      rw [← h1, List.filter_cons, ← e2, if_pos rfl]
      simp
    | false =>
      simp only [cnd_false]
      refine hI _ _ _ ⟨rfl, ?_, fun q hq => h2 q (List.mem_cons_of_mem _ hq)⟩
      rw [← h1, List.filter_cons, ← e2]
      simp
  · rintro acc st' ⟨rfl, h1, _⟩
    simp only [List.filter_nil, List.map_nil, List.append_nil] at h1
    rw [h1]
    exact hf
@[simp] theorem wp_bYes : wp (bYes σ st) QB = QB true st := by unfold wp; rfl
theorem wp_lcA {α : Type} {g : α → PV} {t : DT} {e : DE} {QL : List PV → Store → Prop} (v : α → PV) (l : List α)
    (hs : ∀ p ∈ l, wp (t (g p) σ st) fun σ1 st1 => st1 = st ∧ wp (e σ1 st1) fun u st3 => u = v p ∧ st3 = st) (hf : QL (l.map v) st) : wp (lcI t bYes e (fun _ => true) σ (l.map g) st) QL := by
  have ef : l.filter (fun _ => true) = l := List.filter_eq_self.mpr fun _ _ => rfl
  refine wp_lcF (fun _ => true) v l (fun p hp => wp_mono (hs p hp) fun σ1 st1 h => ?_) (by rw [ef]; exact hf)
  simp only [wp_bYes]
  exact ⟨h.1, trivial, fun _ => h.2⟩
theorem rgP_nat (n : Nat) : rgP 0 n = (List.range n).map fun i => PV.int (i : Nat) := by
  unfold rgP
  simp
/-! dicts -/
variable {κ α : Type} [DecidableEq κ]
theorem find_map {es : List (κ × α)} {k k' : κ} {v : α} : ((es.map fun e => if e.1 = k then (e.1, v) else e).find? fun e => decide (e.1 = k')) = (es.find? fun e => decide (e.1 = k')).map fun e => if e.1 = k then (e.1, v) else e := by
  induction es with
  | nil => rfl
  | cons e es ih =>
    simp only [List.map_cons, List.find?_cons]
    by_cases h : e.1 = k
    · rw [if_pos h]
      by_cases h2 : e.1 = k'
      · have z : k = k' := h.symm.trans h2
        subst z
        simp [h]
      · simp [h2, ih]
    · rw [if_neg h]
      by_cases h2 : e.1 = k'
      · simp [h2]
        intro z; exact absurd (h2.trans z) h
      · simp [h2, ih]
theorem look_putA {es : List (κ × α)} {k k' : κ} {v : α} : look (putA es k v) k' = if k = k' then some v else look es k' := by
  unfold putA look
  split
  · rename_i h
    rw [find_map]
    obtain ⟨e, he, hk⟩ := List.any_eq_true.mp h
    rw [decide_eq_true_eq] at hk
    by_cases z : k = k'
    · subst z
      rw [if_pos rfl]
      cases q : es.find? fun e => decide (e.1 = k) with
      | none =>
        rw [List.find?_eq_none] at q
        exact absurd (q e he) (by simp [hk])
      | some e' =>
        have := List.find?_some q
        rw [decide_eq_true_eq] at this
        simp [this]
    · rw [if_neg z]
      cases q : es.find? fun e => decide (e.1 = k') with
      | none => rfl
      | some e' =>
        have := List.find?_some q
        rw [decide_eq_true_eq] at this
        simp only [Option.map_some, Option.some.injEq]
        rw [if_neg (fun h => z (h.symm.trans this))]
  · rename_i h
    simp only [Bool.not_eq_true] at h
    rw [List.find?_append]
    by_cases z : k = k'
    · subst z
      rw [if_pos rfl]
      cases q : es.find? fun e => decide (e.1 = k) with
      | none => simp
      | some e' =>
        have h2 := List.find?_some q
        have h3 := List.mem_of_find?_eq_some q
        rw [List.any_eq_false] at h
        exact absurd h2 (h e' h3)
    · rw [if_neg z]
      cases q : es.find? fun e => decide (e.1 = k') with
      | none => simp [z]
      | some e' => simp
theorem putA_len {es : List (κ × α)} {k : κ} {v : α} : (putA es k v).length ≤ es.length + 1 := by
  unfold putA
  split <;> simp
theorem putA_vals {es : List (κ × α)} {k : κ} {v : α} {p : α → Prop} (h : ∀ e ∈ es, p e.2) (hv : p v) : ∀ e ∈ putA es k v, p e.2 := by
  unfold putA
  split
  · intro e he
    obtain ⟨e', h1, rfl⟩ := List.mem_map.mp he
    split
    · exact hv
    · exact h e' h1
  · intro e he
    rcases List.mem_append.mp he with z | z
    · exact h e z
    · simp at z; subst z; exact hv
theorem zip_fs {κ α : Type} (es : List (κ × α)) : (es.map (·.1)).zip (es.map (·.2)) = es := by
  induction es with
  | nil => rfl
  | cons e es ih => simp [ih]
/-- a dict that nobody changes -/
def fzT (es : List (List Key × PV)) : PV := .dT (es.map (·.1)) (es.map (·.2))
theorem wp_ixT2 {es : List (List Key × PV)} {i j : Int} {v : PV} (h : look es [.inl i, .inl j] = some v) (q : Q v st) : wp (pIx (fzT es) (.tup [.int i, .int j]) st) Q := by
  have e : dGet (fzT es) (.tup [.int i, .int j]) st = some (some v) := by
    simp only [dGet, fzT, isW, kOfs, kOf, Option.bind_some, Option.map_some, zip_fs, h]
    rfl
  simp only [pIx, e]
  exact wp_ok.mpr q
theorem wp_ixR2 {es : List (List Key × PV)} {i j : Int} {v : PV} {n : Nat} (hn : st[n]? = some (.dT es)) (h : look es [.inl i, .inl j] = some v) (q : Q v st) : wp (pIx (.ref n) (.tup [.int i, .int j]) st) Q := by
  have e : dGet (.ref n) (.tup [.int i, .int j]) st = some (some v) := by
    simp only [dGet, hn, isW, kOfs, kOf, Option.bind_some, Option.map_some, h]
    rfl
  simp only [pIx, e]
  exact wp_ok.mpr q
theorem wp_setT2 {es : List (List Key × PV)} {i j : Int} {v : PV} {n : Nat} {QU : Unit → Store → Prop} (hn : st[n]? = some (.dT es)) (hz : es.length < SZ) (q : QU () (st.set n (.dT (putA es [.inl i, .inl j] v)))) : wp (pSet (.ref n) (.tup [.int i, .int j]) v st) QU := by
  have e1 : isW [PV.int i, PV.int j] = false := rfl
  have e2 : kOfs [PV.int i, PV.int j] = some [.inl i, .inl j] := rfl
  simp only [pSet, hn, e1, e2, if_pos hz, Bool.false_eq_true, if_false]
  exact wp_ok.mpr q
/-! sorted, pop -/
theorem ints_map : ∀ l : List Int, ints? (l.map PV.int) = some l
  | [] => rfl
  | i :: l => by simp [ints?, ints_map l]
theorem wp_srtL {l : List Int} : wp (qSrtI [.lst (l.map PV.int)] st) Q = Q (.lst ((isort l).map PV.int)) st := by
  simp only [qSrtI, asL, Option.bind_some, ints_map, wp_ok]
theorem wp_pop0 {l : List PV} {n : Nat} {y : PV} (h : st[n]? = some (.lst (l ++ [y]))) (q : Q y (st.set n (.lst l))) : wp (mPop0 (.ref n) [] st) Q := by
  have e : (l ++ [y])[(l ++ [y]).length - 1]? = some y := by simp
  have e2 : (l ++ [y]).dropLast = l := by simp
  simp only [mPop0, refL, h, e, e2]
  exact wp_ok.mpr q
theorem wp_pop1 {l : List PV} {n k : Nat} {y : PV} (h : st[n]? = some (.lst l)) (hk : l[k]? = some y) (hb : k < 1000000) (q : Q y (st.set n (.lst (l.eraseIdx k)))) : wp (mPop1 (.ref n) [.int k] st) Q := by
  have hl : k < l.length := (List.getElem?_eq_some_iff.mp hk).1
  have e : seqIndex? (k : Int) l.length = some k := by
    unfold seqIndex?
    simp
    omega
  simp only [mPop1, refL, h, e, hk, mPop1.B63]
  rw [if_pos (by omega)]
  exact wp_ok.mpr q
end
/-- data, n deep at most -/
def dab : Nat → PV → Bool
  | _, .non => true
  | _, .bl _ => true
  | _, .int _ => true
  | _, .str x => PyData.strOk x
  | n + 1, .tup l => l.all (dab n)
  | n + 1, .lst l => l.all (dab n)
  | _, _ => false
theorem dab_d : ∀ (n : Nat) (p : PV), dab n p = true → ∃ d, toD0 p = some d ∧ PyData.canLay0 d = true ∧ PyData.depth d ≤ n := by
  intro n
  induction n with
  | zero =>
    intro p h
    cases p <;> simp [dab] at h <;> simp_all [toD0, PyData.canLay0, PyData.depth]
  | succ n ih =>
    intro p h
    cases p with
    | tup l =>
      simp only [dab, List.all_eq_true] at h
      obtain ⟨ds, e, r⟩ := toD0s_of (l := l) fun p hp => ih p (h p hp)
      have z := canLayAll_of r
      exact ⟨.tuple ds, by simp [toD0, e], by simpa [PyData.canLay0] using z.1, by simpa [PyData.depth] using z.2⟩
    | lst l =>
      simp only [dab, List.all_eq_true] at h
      obtain ⟨ds, e, r⟩ := toD0s_of (l := l) fun p hp => ih p (h p hp)
      have z := canLayAll_of r
      exact ⟨.list ds, by simp [toD0, e], by simpa [PyData.canLay0] using z.1, by simpa [PyData.depth] using z.2⟩
    | _ => simp [dab] at h <;> simp_all [toD0, PyData.canLay0, PyData.depth]
theorem dab_mono : ∀ {n m : Nat} {p : PV}, n ≤ m → dab n p = true → dab m p = true := by
  intro n
  induction n with
  | zero => intro m p _ h; cases p <;> simp [dab] at h <;> cases m <;> simp [dab, h]
  | succ n ih =>
    intro m p hm h
    cases m with
    | zero => omega
    | succ m =>
      cases p with
      | tup l => simp only [dab, List.all_eq_true] at h ⊢; exact fun q hq => ih (by omega) (h q hq)
      | lst l => simp only [dab, List.all_eq_true] at h ⊢; exact fun q hq => ih (by omega) (h q hq)
      | _ => first | (simp [dab] at h; done) | simpa [dab] using h
mutual
theorem toD0_cl : ∀ {p : PV} {d : PyData}, toD0 p = some d → cl p = true
  | .non, _, _ => by simp
  | .bl _, _, _ => by simp
  | .int _, _, _ => by simp
  | .str _, _, _ => by simp
  | .tup l, d, h => by
    simp only [toD0] at h
    obtain ⟨ds, e, _⟩ := Option.map_eq_some_iff.mp h
    simpa using toD0s_cl e
  | .lst l, d, h => by
    simp only [toD0] at h
    obtain ⟨ds, e, _⟩ := Option.map_eq_some_iff.mp h
    simpa using toD0s_cl e
  | .scr l, d, h => by
    simp only [toD0] at h
    obtain ⟨ds, e, _⟩ := Option.map_eq_some_iff.mp h
    simpa [cl] using toD0s_cl e
  | .dK _ _, _, h => by simp [toD0] at h
  | .dT _ _, _, h => by simp [toD0] at h
  | .ref _, _, h => by simp [toD0] at h
  | .con _, _, h => by simp [toD0] at h
  | .ty _, _, h => by simp [toD0] at h
theorem toD0s_cl : ∀ {l : List PV} {ds : List PyData}, toD0s l = some ds → cls l = true
  | [], _, _ => by simp
  | p :: l, ds, h => by
    simp only [toD0s] at h
    obtain ⟨d, e1, h⟩ := Option.bind_eq_some_iff.mp h
    obtain ⟨ds', e2, _⟩ := Option.map_eq_some_iff.mp h
    simp [toD0_cl e1, toD0s_cl e2]
end
theorem dab_cl {n : Nat} {p : PV} (h : dab n p = true) : cl p = true := by
  obtain ⟨d, e, _⟩ := dab_d n p h
  exact toD0_cl e
section
variable {Q : PV → Store → Prop} {st : Store} {p : PV} {n : Nat}
theorem wp_eqNil {l : List PV} (h : l.all (dab 20) = true) : wp (pEq (.lst l) (.lst []) st) Q = Q (.bl l.isEmpty) st := by
  have h' : dab 21 (.lst l) = true := by simpa [dab] using h
  obtain ⟨d, e, c, z⟩ := dab_d 21 _ h'
  simp only [toD0] at e
  obtain ⟨ds, e9, rfl⟩ := Option.map_eq_some_iff.mp e
  clear e
  have h1 : toD (.lst l) st = some (.list ds) := by simp [toD, toD0, e9]
  have h2 : toD (.lst []) st = some (.list []) := by simp [toD, toD0, toD0s]
  have h3 := shaped_of c (by omega)
  have h4 : SeqAt.shaped (.list []) = true := shaped_of (by simp [PyData.canLay0, PyData.canLayAll0]) (by simp [PyData.depth, PyData.depthAll])
  have h5 : PyData.eqv (.list ds) (.list []) = l.isEmpty := by
    cases l with
    | nil => simp [toD0s] at e9; subst e9; simp [PyData.eqv, PyData.eqvAll]
    | cons a l =>
      simp only [toD0s] at e9
      obtain ⟨d, _, e9⟩ := Option.bind_eq_some_iff.mp e9
      obtain ⟨ds', _, rfl⟩ := Option.map_eq_some_iff.mp e9
      simp [PyData.eqv, PyData.eqvAll]
  simp only [pEq, pEqB, h1, h2, h3, h4, h5, and_self, if_true, Res.bind, wp_ok]
theorem wp_neNil {l : List PV} (h : l.all (dab 20) = true) : wp (pNe (.lst l) (.lst []) st) Q = Q (.bl (!l.isEmpty)) st := by
  have := wp_eqNil (st := st) (Q := fun v st => ∃ b, v = .bl b ∧ Q (.bl (!b)) st) h
  simp only [pEq, wp_bind, wp_ok, PV.bl.injEq, exists_eq_left'] at this
  simp only [pNe, wp_bind, wp_ok]
  exact this
def isTp : PV → Bool
  | .tup _ => true
  | _ => false
def isIn : PV → Bool
  | .int _ => true
  | .bl _ => true
  | _ => false
def isBo : PV → Bool
  | .bl _ => true
  | _ => false
def isSt : PV → Bool
  | .str _ => true
  | _ => false
theorem wp_isTup (h : dab n p = true) : wp (qIsI [p, .ty "tuple"] st) Q = Q (.bl (isTp p)) st := by
  cases p <;> cases n <;> simp [dab] at h <;> (unfold wp; rfl)
theorem wp_isInt (h : dab n p = true) : wp (qIsI [p, .ty "int"] st) Q = Q (.bl (isIn p)) st := by
  cases p <;> cases n <;> simp [dab] at h <;> (unfold wp; rfl)
theorem wp_isBool (h : dab n p = true) : wp (qIsI [p, .ty "bool"] st) Q = Q (.bl (isBo p)) st := by
  cases p <;> cases n <;> simp [dab] at h <;> (unfold wp; rfl)
theorem wp_isStr (h : dab n p = true) : wp (qIsI [p, .ty "str"] st) Q = Q (.bl (isSt p)) st := by
  cases p <;> cases n <;> simp [dab] at h <;> (unfold wp; rfl)
end
end DN
set_option Elab.async false
set_option linter.all false
set_option maxRecDepth 100000
set_option maxHeartbeats 4000000
/-! LibD: what the defs that many laws have compute. Printed by gen.py. -/
namespace Lib
open PySem PySem.Spec PyProof.Rows L2 DN
noncomputable def _law_pool : List PV → M PV := dFnK 2 5
  (sSeq (sAsg (dC (.int 0)) (tName 2))
  (sSeq (sIf (bVal (d2 pLt (dVar 1) (dAl qLen (dAc (dVar 0) dA0)))) (sAsg (d2 pIx (dVar 0) (dVar 1)) (tName 2)) (sIf (bVal (d2 pNe (dVar 0) (dAl mLst dA0))) (sAsg (d2 pIx (dVar 0) (dC (.int 0))) (tName 2)) sNext))
  (sSeq (sAsg (dAl qMax (dAc (dAl qInt (dAc (dVar 2) dA0)) (dAc (dAl qInt (dAc (d2 pSub (d1 pNeg (dC (.int 1))) (dVar 2)) dA0)) dA0))) (tName 3))
  (sSeq (sAsg (d2 pMod (dAl qInt (dAc (d2 pMul (d2 pAdd (d2 pAdd (d2 pAdd (d2 pMod (dAl qInt (dAc (dVar 3) dA0)) (dC (.int 2147483629))) (d2 pMul (d2 pMul (dC (.int 7919)) (dVar 1)) (dVar 1))) (d2 pMul (dC (.int 31)) (dVar 1))) (dC (.int 17))) (dC (.int 48271))) dA0)) (dC (.int 2147483647))) (tName 4))
  (sRet (dAl mLstR (dAc (d2 pMul (dVar 3) (dAl qInt (dAc (dAnd (d2 pGe (dVar 3) (d2 pPow (dC (.int 10)) (dC (.int 18)))) (d2 pLt (dVar 1) (dAl qLen (dAc (dVar 0) dA0)))) dA0))) (dAc (dVar 4) dA0))))))))
noncomputable def _law_take : List PV → M PV := dFn 2 3
  (sSeq (sIf (bVal (d2 pGt (d2 pIx (dVar 0) (dC (.int 0))) (dC (.int 0)))) (sSeq (sAsg (d2 pMod (dAl qInt (dAc (d2 pIx (dVar 0) (dC (.int 0))) dA0)) (dVar 1)) (tName 2))
  (sSeq (sAsg (d2 pDiv (d2 pIx (dVar 0) (dC (.int 0))) (dVar 1)) (tSub (dVar 0) (dC (.int 0))))
  (sRet (dVar 2)))) sNext)
  (sSeq (sAsg (d2 pMod (dAl qInt (dAc (d2 pAdd (d2 pMul (d2 pIx (dVar 0) (dC (.int 1))) (dC (.int 39373))) (dC (.int 7))) dA0)) (dC (.int 2147483647))) (tSub (dVar 0) (dC (.int 1))))
  (sRet (d2 pMod (dAl qInt (dAc (d2 pDiv (d2 pMod (dAl qInt (dAc (d2 pMul (d2 pIx (dVar 0) (dC (.int 1))) (d2 pIx (dVar 0) (dC (.int 1)))) dA0)) (dC (.int 2147483629))) (dC (.int 32))) dA0)) (dVar 1)))))
noncomputable def _law_one : List PV → M PV := dFn 2 2
  (sRet (d2 pIx (dVar 1) (dAl _law_take (dAc (dVar 0) (dAc (dAl qLen (dAc (dVar 1) dA0)) dA0)))))
noncomputable def _law_rooms : List PV → M PV := dFn 2 3
  (sRet (dAl qTup (dAc (dCompL (iRg1 (dVar 1)) (tName 2) bYes (dAl _law_one (dAc (dVar 0) (dAc (dAl mLst (dAc (dC (.int 1)) (dAc (dC (.int 1)) (dAc (dC (.int 2)) (dAc (dC (.int 1)) (dAc (dC (.int 0)) (dAc (dC (.int 2)) (dAc (dC (.int 3)) (dAc (dC (.int 4)) dA0))))))))) dA0))) [2] mLst) dA0)))
noncomputable def _law_two : List PV → M PV := dFn 2 3
  (sSeq (sAsg (dAl _law_take (dAc (dVar 0) (dAc (dAl qLen (dAc (dVar 1) dA0)) dA0))) (tName 2))
  (sRet (dAl mTup (dAc (dVar 2) (dAc (d2 pMod (dAl qInt (dAc (d2 pAdd (d2 pAdd (dVar 2) (dC (.int 1))) (dAl _law_take (dAc (dVar 0) (dAc (d2 pSub (dAl qLen (dAc (dVar 1) dA0)) (dC (.int 1))) dA0)))) dA0)) (dAl qLen (dAc (dVar 1) dA0))) dA0)))))
noncomputable def _law_every : List PV → M PV := dFn 3 7
  (sSeq (sPar 3 4 (dAc (dCompL (iRg1 (d2 pIx (dVar 0) (dVar 2))) (tName 5) bYes (dAl mTup (dAc (dC (.str ("in" : Str))) (dAc (dVar 5) dA0))) [5] mLst) (dAc (dCompL (iRg1 (d2 pIx (dVar 0) (dVar 1))) (tName 6) bYes (dAl mTup (dAc (dC (.str ("around" : Str))) (dAc (dVar 6) dA0))) [6] mLst) dA0)))
  (sRet (d2 pAdd (d2 pAdd (dAl mLst (dAc (dAl mTup (dAc (dC (.str ("apart" : Str))) (dAc (dC (.int 0)) dA0))) dA0)) (dVar 3)) (dVar 4))))
noncomputable def _law_mixed : List PV → M PV := dFn 2 5
  (sSeq (sPar 3 4 (dAc (dAl qLstR (dAc (dVar 1) dA0)) (dAc (dAl mLstR dA0) dA0)))
  (sSeq (sFor (iRg1 (dAl qLen (dAc (dVar 1) dA0))) (tName 2) (sExpr (dM isL mAppend (dVar 4) (dAc (dM isL mPop1 (dVar 3) (dAc (dAl _law_take (dAc (dVar 0) (dAc (dAl qLen (dAc (dVar 3) dA0)) dA0))) dA0)) dA0))) [2])
  (sRet (dVar 4))))
noncomputable def _law_grown : List PV → M PV := dFn 2 9
  (sSeq (sAsg (dAl _law_mixed (dAc (dVar 0) (dAc (dCompL (iRg1 (dAl qLen (dAc (dVar 1) dA0))) (tName 6) bYes (dVar 6) [6] mLst) dA0))) (tName 2))
  (sSeq (sAsg (dCompL (iRg1 (dAl qLen (dAc (dVar 1) dA0))) (tName 6) bYes (dC .non) [6] mLstR) (tName 3))
  (sSeq (sFor (iRg1 (dAl qLen (dAc (dVar 2) dA0))) (tName 4) (sSeq (sAsg (dCompL (iSeq (dSl (dVar 2) oNone (oSome (dVar 4)))) (tName 8) (bVal (d2 pGt (d2 pIx (dVar 1) (dVar 8)) (dC (.int 0)))) (dVar 8) [8] mLst) (tName 5))
  (sIf (bAnd (bVal (d2 pNe (dVar 5) (dAl mLst dA0))) (bVal (d2 pGt (dAl _law_take (dAc (dVar 0) (dAc (dC (.int 4)) dA0))) (dC (.int 0))))) (sSeq (sAsg (dAl _law_one (dAc (dVar 0) (dAc (dVar 5) dA0))) (tName 7))
  (sAsg (dAl mTup (dAc (dVar 7) (dAc (dAl _law_take (dAc (dVar 0) (dAc (d2 pIx (dVar 1) (dVar 7)) dA0))) dA0))) (tSub (dVar 3) (d2 pIx (dVar 2) (dVar 4))))) sNext)) [4, 5, 7])
  (sRet (dAl qTup (dAc (dVar 3) dA0))))))
noncomputable def _law_climb : List PV → M PV := dFn 2 5
  (sSeq (sPar 3 4 (dAc (dAl mLstR dA0) (dAc (d2 pIx (dVar 0) (dVar 1)) dA0)))
  (sSeq (sFor (iRg1 (dAl qLen (dAc (dVar 0) dA0))) (tName 2) (sSeq (sIf (bVal (d2 pIs (dVar 4) (dC .non))) sBreak sNext)
  (sSeq (sExpr (dM isL mAppend (dVar 3) (dAc (dVar 4) dA0)))
  (sAsg (d2 pIx (dVar 0) (d2 pIx (dVar 4) (dC (.int 0)))) (tName 4)))) [2])
  (sRet (dVar 3))))
noncomputable def _law_standing : List PV → M PV := dFn 3 5
  (sSeq (sFor (iSeq (dAl _law_climb (dAc (dVar 0) (dAc (dVar 1) dA0)))) (tTupP 2 (tCons (tName 3) (tCons (tName 4) tNil))) (sIf (bVal (d2 pEq (dVar 3) (dVar 2))) (sRet (dAl mTup (dAc (dC (.str ("in" : Str))) (dAc (dVar 4) dA0)))) sNext) [3, 4])
  (sSeq (sFor (iSeq (dAl _law_climb (dAc (dVar 0) (dAc (dVar 2) dA0)))) (tTupP 2 (tCons (tName 3) (tCons (tName 4) tNil))) (sIf (bVal (d2 pEq (dVar 3) (dVar 1))) (sRet (dAl mTup (dAc (dC (.str ("around" : Str))) (dAc (dVar 4) dA0)))) sNext) [3, 4])
  (sRet (dAl mTup (dAc (dC (.str ("apart" : Str))) (dAc (dC (.int 0)) dA0))))))
noncomputable def _law_saying : List PV → M PV := dFn 3 10
  (sSeq (sAsg (dAl _law_take (dAc (dVar 0) (dAc (dAl qLen (dAc (dVar 1) dA0)) dA0))) (tName 3))
  (sSeq (sAsg (d2 pMod (dAl qInt (dAc (d2 pAdd (d2 pAdd (dVar 3) (dC (.int 1))) (dAl _law_take (dAc (dVar 0) (dAc (d2 pSub (dAl qLen (dAc (dVar 1) dA0)) (dC (.int 1))) dA0)))) dA0)) (dAl qLen (dAc (dVar 1) dA0))) (tName 4))
  (sSeq (sPar3 6 7 8 (dAc (dAl _law_standing (dAc (dVar 2) (dAc (dVar 3) (dAc (dVar 4) dA0)))) (dAc (d2 pGt (dAl _law_take (dAc (dVar 0) (dAc (dC (.int 12)) dA0))) (dC (.int 0))) (dAc (dAl mLstR dA0) dA0))))
  (sSeq (sFor (iSeq (dAl _law_every (dAc (dVar 1) (dAc (dVar 3) (dAc (dVar 4) dA0))))) (tName 5) (sSeq (sAsg (dIf (bVal (d2 pEq (d2 pIx (dVar 5) (dC (.int 0))) (dC (.str ("apart" : Str))))) (dC (.int 6)) (dC (.int 2))) (tName 9))
  (sIf (bOr (bVal (d2 pEq (dAl _law_take (dAc (dVar 0) (dAc (dVar 9) dA0))) (dC (.int 0)))) (bAnd (bTruth (dVar 7)) (bVal (d2 pEq (dVar 5) (dVar 6))))) (sExpr (dM isL mAppend (dVar 8) (dAc (dVar 5) dA0))) sNext)) [5, 9])
  (sRet (dAl mTup (dAc (dVar 3) (dAc (dVar 4) (dAc (dAl qTup (dAc (dVar 8) dA0)) dA0)))))))))
noncomputable def _law_sayings : List PV → M PV := dFn 3 5
  (sSeq (sAsg (dAl _law_grown (dAc (dVar 0) (dAc (dVar 1) dA0))) (tName 3))
  (sSeq (sIf (bVal (d2 pLt (dAl qLen (dAc (dVar 1) dA0)) (dC (.int 2)))) (sRet (dAl mLst dA0)) sNext)
  (sRet (dCompL (iRg1 (dAl _law_take (dAc (dVar 0) (dAc (d2 pAdd (dVar 2) (dC (.int 1))) dA0)))) (tName 4) bYes (dAl _law_saying (dAc (dVar 0) (dAc (dVar 1) (dAc (dVar 3) dA0)))) [4] mLst))))
noncomputable def _law_parts : List PV → M PV := dFn 2 8
  (sSeq (sPar 2 3 (dAc (dAl qSrtI (dAc (dVar 1) dA0)) (dAc (dAl mLstR dA0) dA0)))
  (sSeq (sWhile (bVal (d2 pNe (dVar 2) (dAl mLst dA0))) (sSeq (sAsg (dAl mTup (dAc (dAl mLst (dAc (d2 pIx (dVar 2) (dC (.int 0))) dA0)) (dAc (dC (.int 0)) dA0))) (tTupP 2 (tCons (tName 4) (tCons (tName 5) tNil))))
  (sSeq (sAsg (dSl (dVar 2) (oSome (dC (.int 1))) oNone) (tName 2))
  (sSeq (sWhile (bVal (d2 pLt (dVar 5) (dAl qLen (dAc (dVar 4) dA0)))) (sSeq (sAsg (dCompL (iSeq (dVar 2)) (tName 7) (bVal (d2 pNotIn (dAl mTup (dAc (dC (.str ("apart" : Str))) (dAc (dC (.int 0)) dA0))) (d2 pIx (dVar 0) (dAl mTup (dAc (d2 pIx (dVar 4) (dVar 5)) (dAc (dVar 7) dA0)))))) (dVar 7) [7] mLst) (tName 6))
  (sSeq (sAsg (dCompL (iSeq (dVar 2)) (tName 7) (bVal (d2 pNotIn (dVar 7) (dVar 6))) (dVar 7) [7] mLst) (tName 2))
  (sAsg (dAl mTup (dAc (d2 pAdd (dVar 4) (dVar 6)) (dAc (d2 pAdd (dVar 5) (dC (.int 1))) dA0))) (tTupP 2 (tCons (tName 4) (tCons (tName 5) tNil)))))) [6])
  (sExpr (dM isL mAppend (dVar 3) (dAc (dAl qTup (dAc (dAl qSrtI (dAc (dVar 4) dA0)) dA0)) dA0)))))) [4, 5, 6])
  (sRet (dVar 3))))
noncomputable def _law_less : List PV → M PV := dFn 2 3
  (sRet (dCompL (iSeq (dVar 0)) (tName 2) (bVal (d2 pNe (dVar 2) (dVar 1))) (dVar 2) [2] mLst))
noncomputable def _law_over : List PV → M PV := dFn 4 6
  (sRet (dCompL (iRg1 (d2 pIx (dVar 0) (dVar 2))) (tName 4) (bVal (d2 pEq (dCompL (iSeq (dVar 3)) (tName 5) (bVal (d2 pNotIn (dAl mTup (dAc (dC (.str ("around" : Str))) (dAc (dVar 4) dA0))) (d2 pIx (dVar 1) (dAl mTup (dAc (dVar 2) (dAc (dVar 5) dA0)))))) (dVar 5) [5] mLst) (dAl mLst dA0))) (dVar 4) [4] mLst))
noncomputable def _law_free : List PV → M PV := dFn 3 6
  (sSeq (sAsg (dAl mLstR dA0) (tName 3))
  (sSeq (sFor (iSeq (dVar 2)) (tName 4) (sIf (bVal (d2 pEq (dCompL (iSeq (dAl _law_parts (dAc (dVar 1) (dAc (dAl _law_less (dAc (dVar 2) (dAc (dVar 4) dA0))) dA0)))) (tName 5) (bVal (d2 pEq (dAl _law_over (dAc (dVar 0) (dAc (dVar 1) (dAc (dVar 4) (dAc (dVar 5) dA0))))) (dAl mLst dA0))) (dVar 5) [5] mLst) (dAl mLst dA0))) (sExpr (dM isL mAppend (dVar 3) (dAc (dVar 4) dA0))) sNext) [4])
  (sRet (dVar 3))))
noncomputable def _law_solved : List PV → M PV := dFn 2 11
  (sSeq (sPar 3 4 (dAc (dCompL (iRg1 (dAl qLen (dAc (dVar 0) dA0))) (tName 10) bYes (dC .non) [10] mLstR) (dAc (dAl mLstR dA0) dA0)))
  (sSeq (sFor (iSeq (dAl _law_parts (dAc (dVar 1) (dAc (dCompL (iRg1 (dAl qLen (dAc (dVar 0) dA0))) (tName 10) bYes (dVar 10) [10] mLst) dA0)))) (tName 2) (sExpr (dM isL mAppend (dVar 4) (dAc (dAl mTup (dAc (dVar 2) (dAc (dC .non) dA0))) dA0))) [2])
  (sSeq (sWhile (bVal (d2 pNe (dVar 4) (dAl mLst dA0))) (sSeq (sAsg (dM0 isL mPop0 (dVar 4)) (tTupP 2 (tCons (tName 2) (tCons (tName 8) tNil))))
  (sSeq (sAsg (dAl _law_free (dAc (dVar 0) (dAc (dVar 1) (dAc (dVar 2) dA0)))) (tName 5))
  (sSeq (sIf (bVal (d2 pEq (dVar 5) (dAl mLst dA0))) (sRet (dAl mTup (dAc (dC .non) (dAc (dVar 2) dA0)))) sNext)
  (sSeq (sAsg (d2 pIx (dVar 5) (d2 pSub (dAl qLen (dAc (dVar 5) dA0)) (dC (.int 1)))) (tName 6))
  (sSeq (sAsg (dVar 8) (tSub (dVar 3) (dVar 6)))
  (sFor (iSeq (dAl _law_parts (dAc (dVar 1) (dAc (dAl _law_less (dAc (dVar 2) (dAc (dVar 6) dA0))) dA0)))) (tName 7) (sSeq (sAsg (dAl _law_over (dAc (dVar 0) (dAc (dVar 1) (dAc (dVar 6) (dAc (dVar 7) dA0))))) (tName 9))
  (sExpr (dM isL mAppend (dVar 4) (dAc (dAl mTup (dAc (dVar 7) (dAc (dAl mTup (dAc (dVar 6) (dAc (d2 pIx (dVar 9) (d2 pSub (dAl qLen (dAc (dVar 9) dA0)) (dC (.int 1)))) dA0))) dA0))) dA0)))) [7, 9])))))) [2, 8, 5, 6, 7, 9])
  (sRet (dAl mTup (dAc (dAl qTup (dAc (dVar 3) dA0)) (dAc (dC .non) dA0)))))))
noncomputable def room_way : List PV → M PV := dFn 3 4
  (sSeq (sAsg (d2 pIx (dVar 0) (dVar 1)) (tName 3))
  (sSeq (sWhile (bVal (d2 pIsNot (dVar 3) (dC .non))) (sSeq (sIf (bVal (d2 pEq (d2 pIx (dVar 3) (dC (.int 0))) (dVar 2))) (sRet (d2 pIx (dVar 3) (dC (.int 1)))) sNext)
  (sAsg (d2 pIx (dVar 0) (d2 pIx (dVar 3) (dC (.int 0)))) (tName 3))) [])
  (sRet (dC .non))))
noncomputable def standing_in : List PV → M PV := dFn 3 4
  (sSeq (sAsg (dAl room_way (dAc (dVar 0) (dAc (dVar 1) (dAc (dVar 2) dA0)))) (tName 3))
  (sSeq (sIf (bVal (d2 pIsNot (dVar 3) (dC .non))) (sRet (dAl mTup (dAc (dC (.str ("in" : Str))) (dAc (dVar 3) dA0)))) sNext)
  (sSeq (sAsg (dAl room_way (dAc (dVar 0) (dAc (dVar 2) (dAc (dVar 1) dA0)))) (tName 3))
  (sRet (dIf (bVal (d2 pIs (dVar 3) (dC .non))) (dC (.tup [(.str ("apart" : Str)), (.int 0)])) (dAl mTup (dAc (dC (.str ("around" : Str))) (dAc (dVar 3) dA0))))))))
noncomputable def first_broken : List PV → M PV := dFn 2 6
  (sSeq (sFor (iEn (d2 pIx (dVar 0) (dC (.int 1)))) (tTupP 2 (tCons (tName 2) (tCons (tTupP 3 (tCons (tName 3) (tCons (tName 4) (tCons (tName 5) tNil)))) tNil))) (sIf (bVal (d2 pNotIn (dAl standing_in (dAc (dVar 1) (dAc (dVar 3) (dAc (dVar 4) dA0)))) (dVar 5))) (sRet (dVar 2)) sNext) [2, 3, 4, 5])
  (sRet (dC .non)))
noncomputable def is_pair : List PV → M PV := dFn 1 1
  (sRet (dAnd (dAl qIsI (dAc (dVar 0) (dAc (dC (.ty "tuple")) dA0))) (d2 pEq (dAl qLen (dAc (dVar 0) dA0)) (dC (.int 2)))))
noncomputable def is_whole : List PV → M PV := dFn 1 1
  (sRet (dAnd (dAl qIsI (dAc (dVar 0) (dAc (dC (.ty "int")) dA0))) (dNot (dAl qIsI (dAc (dVar 0) (dAc (dC (.ty "bool")) dA0))))))
noncomputable def is_rooms : List PV → M PV := dFn 1 2
  (sSeq (sIf (bOr (bNot (bTruth (dAl qIsI (dAc (dVar 0) (dAc (dC (.ty "tuple")) dA0))))) (bVal (d2 pGt (dAl qLen (dAc (dVar 0) dA0)) (dC (.int 24))))) (sRet (dC (.bl false))) sNext)
  (sRet (d2 pEq (dCompL (iSeq (dVar 0)) (tName 1) (bOr (bNot (bTruth (dAl is_whole (dAc (dVar 1) dA0)))) (bNot (bVal (dChain pLe pLe (dC (.int 0)) (dVar 1) (dC (.int 4)))))) (dVar 1) [1] mLst) (dAl mLst dA0))))
noncomputable def all_standings : List PV → M PV := dFn 3 5
  (sSeq (sAsg (dCompL (iRg1 (d2 pIx (dVar 0) (dVar 2))) (tName 4) bYes (dAl mTup (dAc (dC (.str ("in" : Str))) (dAc (dVar 4) dA0))) [4] mLst) (tName 3))
  (sRet (d2 pAdd (d2 pAdd (dAl mTup (dAc (dC (.tup [(.str ("apart" : Str)), (.int 0)])) dA0)) (dAl qTup (dAc (dVar 3) dA0))) (dAl qTup (dAc (dCompL (iRg1 (d2 pIx (dVar 0) (dVar 1))) (tName 4) bYes (dAl mTup (dAc (dC (.str ("around" : Str))) (dAc (dVar 4) dA0))) [4] mLst) dA0)))))
noncomputable def is_standing : List PV → M PV := dFn 4 4
  (sSeq (sIf (bOr (bNot (bTruth (dAl qIsI (dAc (dVar 3) (dAc (dC (.ty "tuple")) dA0))))) (bOr (bVal (d2 pNe (dAl qLen (dAc (dVar 3) dA0)) (dC (.int 2)))) (bOr (bNot (bTruth (dAl qIsI (dAc (d2 pIx (dVar 3) (dC (.int 0))) (dAc (dC (.ty "str")) dA0))))) (bNot (bTruth (dAl is_whole (dAc (d2 pIx (dVar 3) (dC (.int 1))) dA0))))))) (sRet (dC (.bl false))) sNext)
  (sRet (d2 pIn (dVar 3) (dAl all_standings (dAc (dVar 0) (dAc (dVar 1) (dAc (dVar 2) dA0)))))))
noncomputable def is_lets : List PV → M PV := dFn 4 8
  (sSeq (sIf (bNot (bTruth (dAl qIsI (dAc (dVar 3) (dAc (dC (.ty "tuple")) dA0))))) (sRet (dC (.bl false))) sNext)
  (sSeq (sAsg (dAl all_standings (dAc (dVar 0) (dAc (dVar 1) (dAc (dVar 2) dA0)))) (tName 4))
  (sSeq (sAsg (d1 pNeg (dC (.int 1))) (tName 5))
  (sSeq (sFor (iSeq (dVar 3)) (tName 6) (sSeq (sIf (bNot (bTruth (dAl is_standing (dAc (dVar 0) (dAc (dVar 1) (dAc (dVar 2) (dAc (dVar 6) dA0))))))) (sRet (dC (.bl false))) sNext)
  (sSeq (sAsg (dM isT mIndexT (dVar 4) (dAc (dVar 6) dA0)) (tName 7))
  (sSeq (sIf (bVal (d2 pLe (dVar 7) (dVar 5))) (sRet (dC (.bl false))) sNext)
  (sAsg (dVar 7) (tName 5))))) [6, 7])
  (sRet (dC (.bl true)))))))
noncomputable def is_thing : List PV → M PV := dFn 2 2
  (sRet (dAnd (dAl is_whole (dAc (dVar 1) dA0)) (dChain pLe pLt (dC (.int 0)) (dVar 1) (dAl qLen (dAc (dVar 0) dA0)))))
noncomputable def says_right : List PV → M PV := dFn 2 5
  (sSeq (sIf (bOr (bNot (bTruth (dAl qIsI (dAc (dVar 1) (dAc (dC (.ty "tuple")) dA0))))) (bVal (d2 pNe (dAl qLen (dAc (dVar 1) dA0)) (dC (.int 3))))) (sRet (dC (.bl false))) sNext)
  (sSeq (sAsg (dVar 1) (tTupP 3 (tCons (tName 2) (tCons (tName 3) (tCons (tName 4) tNil)))))
  (sSeq (sIf (bOr (bNot (bTruth (dAl is_thing (dAc (dVar 0) (dAc (dVar 2) dA0))))) (bOr (bNot (bTruth (dAl is_thing (dAc (dVar 0) (dAc (dVar 3) dA0))))) (bVal (d2 pEq (dVar 2) (dVar 3))))) (sRet (dC (.bl false))) sNext)
  (sRet (dAl is_lets (dAc (dVar 0) (dAc (dVar 2) (dAc (dVar 3) (dAc (dVar 4) dA0)))))))))
noncomputable def first_wrong : List PV → M PV := dFn 2 4
  (sSeq (sFor (iEn (dVar 1)) (tTupP 2 (tCons (tName 2) (tCons (tName 3) tNil))) (sIf (bNot (bTruth (dAl says_right (dAc (dVar 0) (dAc (dVar 3) dA0))))) (sRet (dVar 2)) sNext) [2, 3])
  (sRet (dC .non)))
noncomputable def is_book : List PV → M PV := dFn 1 1
  (sSeq (sIf (bOr (bNot (bTruth (dAl is_pair (dAc (dVar 0) dA0)))) (bOr (bNot (bTruth (dAl is_rooms (dAc (d2 pIx (dVar 0) (dC (.int 0))) dA0)))) (bNot (bTruth (dAl qIsI (dAc (d2 pIx (dVar 0) (dC (.int 1))) (dAc (dC (.ty "tuple")) dA0))))))) (sRet (dC (.bl false))) sNext)
  (sRet (dAnd (d2 pLe (dAl qLen (dAc (d2 pIx (dVar 0) (dC (.int 1))) dA0)) (dC (.int 400))) (d2 pIs (dAl first_wrong (dAc (d2 pIx (dVar 0) (dC (.int 0))) (dAc (d2 pIx (dVar 0) (dC (.int 1))) dA0))) (dC .non)))))
noncomputable def is_place : List PV → M PV := dFn 3 5
  (sSeq (sIf (bVal (d2 pIs (dVar 2) (dC .non))) (sRet (dC (.bl true))) sNext)
  (sSeq (sIf (bOr (bNot (bTruth (dAl qIsI (dAc (dVar 2) (dAc (dC (.ty "tuple")) dA0))))) (bOr (bVal (d2 pNe (dAl qLen (dAc (dVar 2) dA0)) (dC (.int 2)))) (bOr (bNot (bTruth (dAl is_whole (dAc (d2 pIx (dVar 2) (dC (.int 0))) dA0)))) (bNot (bTruth (dAl is_whole (dAc (d2 pIx (dVar 2) (dC (.int 1))) dA0))))))) (sRet (dC (.bl false))) sNext)
  (sSeq (sAsg (dVar 2) (tTupP 2 (tCons (tName 3) (tCons (tName 4) tNil))))
  (sRet (dAnd (dChain pLe pLt (dC (.int 0)) (dVar 3) (dAl qLen (dAc (dVar 0) dA0))) (dAnd (d2 pNe (dVar 3) (dVar 1)) (dChain pLe pLt (dC (.int 0)) (dVar 4) (d2 pIx (dVar 0) (dVar 3)))))))))
noncomputable def first_bad : List PV → M PV := dFn 2 4
  (sSeq (sFor (iEn (dVar 1)) (tTupP 2 (tCons (tName 2) (tCons (tName 3) tNil))) (sIf (bNot (bTruth (dAl is_place (dAc (dVar 0) (dAc (dVar 2) (dAc (dVar 3) dA0)))))) (sRet (dVar 2)) sNext) [2, 3])
  (sRet (dC .non)))
noncomputable def lies_in_itself : List PV → M PV := dFn 2 4
  (sSeq (sAsg (dVar 1) (tName 2))
  (sSeq (sFor (iRg1 (dAl qLen (dAc (dVar 0) dA0))) (tName 3) (sSeq (sIf (bVal (d2 pIs (d2 pIx (dVar 0) (dVar 2)) (dC .non))) (sRet (dC (.bl false))) sNext)
  (sSeq (sAsg (d2 pIx (d2 pIx (dVar 0) (dVar 2)) (dC (.int 0))) (tName 2))
  (sIf (bVal (d2 pEq (dVar 2) (dVar 1))) (sRet (dC (.bl true))) sNext))) [3])
  (sRet (dC (.bl false)))))
noncomputable def first_ring : List PV → M PV := dFn 1 2
  (sSeq (sFor (iRg1 (dAl qLen (dAc (dVar 0) dA0))) (tName 1) (sIf (bTruth (dAl lies_in_itself (dAc (dVar 0) (dAc (dVar 1) dA0)))) (sRet (dVar 1)) sNext) [1])
  (sRet (dC .non)))
noncomputable def is_forest : List PV → M PV := dFn 2 2
  (sSeq (sIf (bOr (bNot (bTruth (dAl is_rooms (dAc (dVar 0) dA0)))) (bOr (bNot (bTruth (dAl qIsI (dAc (dVar 1) (dAc (dC (.ty "tuple")) dA0))))) (bVal (d2 pNe (dAl qLen (dAc (dVar 1) dA0)) (dAl qLen (dAc (dVar 0) dA0)))))) (sRet (dC (.bl false))) sNext)
  (sRet (dAnd (d2 pIs (dAl first_bad (dAc (dVar 0) (dAc (dVar 1) dA0))) (dC .non)) (d2 pIs (dAl first_ring (dAc (dVar 1) dA0)) (dC .non)))))
noncomputable def keeps : List PV → M PV := dFn 2 2
  (sSeq (sIf (bOr (bNot (bTruth (dAl is_book (dAc (dVar 0) dA0)))) (bNot (bTruth (dAl is_forest (dAc (d2 pIx (dVar 0) (dC (.int 0))) (dAc (dVar 1) dA0)))))) (sRet (dC (.bl false))) sNext)
  (sRet (d2 pIs (dAl first_broken (dAc (dVar 0) (dAc (dVar 1) dA0))) (dC .non))))
noncomputable def _law_turned : List PV → M PV := dFn 1 1
  (sRet (dAl mTup (dAc (d2 pIx (dDisp mDk [((dC (.str ("in" : Str))), (dC (.str ("around" : Str)))), ((dC (.str ("around" : Str))), (dC (.str ("in" : Str)))), ((dC (.str ("apart" : Str))), (dC (.str ("apart" : Str))))]) (d2 pIx (dVar 0) (dC (.int 0)))) (dAc (d2 pIx (dVar 0) (dC (.int 1))) dA0))))
noncomputable def _law_table : List PV → M PV := dFn 2 8
  (sSeq (sAsg dNewT (tName 2))
  (sSeq (sFor (iRg1 (dAl qLen (dAc (dVar 0) dA0))) (tName 3) (sFor (iRg1 (dAl qLen (dAc (dVar 0) dA0))) (tName 4) (sIf (bVal (d2 pNe (dVar 3) (dVar 4))) (sAsg (dAl _law_every (dAc (dVar 0) (dAc (dVar 3) (dAc (dVar 4) dA0)))) (tSub (dVar 2) (dAl mTup (dAc (dVar 3) (dAc (dVar 4) dA0))))) sNext) [4]) [3, 4])
  (sSeq (sFor (iSeq (dVar 1)) (tTupP 3 (tCons (tName 3) (tCons (tName 4) (tCons (tName 5) tNil)))) (sSeq (sAsg (dCompL (iSeq (dVar 5)) (tName 7) bYes (dAl _law_turned (dAc (dVar 7) dA0)) [7] mLst) (tName 6))
  (sSeq (sAsg (dCompL (iSeq (d2 pIx (dVar 2) (dAl mTup (dAc (dVar 3) (dAc (dVar 4) dA0))))) (tName 7) (bVal (d2 pIn (dVar 7) (dVar 5))) (dVar 7) [7] mLst) (tSub (dVar 2) (dAl mTup (dAc (dVar 3) (dAc (dVar 4) dA0)))))
  (sAsg (dCompL (iSeq (d2 pIx (dVar 2) (dAl mTup (dAc (dVar 4) (dAc (dVar 3) dA0))))) (tName 7) (bVal (d2 pIn (dVar 7) (dVar 6))) (dVar 7) [7] mLst) (tSub (dVar 2) (dAl mTup (dAc (dVar 4) (dAc (dVar 3) dA0))))))) [3, 4, 5, 6])
  (sRet (dVar 2)))))
noncomputable def _law_number : List PV → M PV := dFn 2 2
  (sRet (dAnd (dAl qIsI (dAc (dVar 0) (dAc (dC (.ty "int")) dA0))) (dAnd (dNot (dAl qIsI (dAc (dVar 0) (dAc (dC (.ty "bool")) dA0)))) (dChain pLe pLt (dC (.int 0)) (dVar 0) (dVar 1)))))
noncomputable def _law_is_forest : List PV → M PV := dFn 2 4
  (sSeq (sIf (bOr (bNot (bTruth (dAl qIsI (dAc (dVar 1) (dAc (dC (.ty "tuple")) dA0))))) (bVal (d2 pNe (dAl qLen (dAc (dVar 1) dA0)) (dAl qLen (dAc (dVar 0) dA0))))) (sRet (dC (.bl false))) sNext)
  (sSeq (sFor (iRg1 (dAl qLen (dAc (dVar 1) dA0))) (tName 2) (sSeq (sAsg (d2 pIx (dVar 1) (dVar 2)) (tName 3))
  (sIf (bVal (d2 pIsNot (dVar 3) (dC .non))) (sSeq (sIf (bOr (bNot (bTruth (dAl qIsI (dAc (dVar 3) (dAc (dC (.ty "tuple")) dA0))))) (bVal (d2 pNe (dAl qLen (dAc (dVar 3) dA0)) (dC (.int 2))))) (sRet (dC (.bl false))) sNext)
  (sSeq (sIf (bOr (bNot (bTruth (dAl _law_number (dAc (d2 pIx (dVar 3) (dC (.int 0))) (dAc (dAl qLen (dAc (dVar 0) dA0)) dA0))))) (bVal (d2 pEq (d2 pIx (dVar 3) (dC (.int 0))) (dVar 2)))) (sRet (dC (.bl false))) sNext)
  (sIf (bNot (bTruth (dAl _law_number (dAc (d2 pIx (dVar 3) (dC (.int 1))) (dAc (d2 pIx (dVar 0) (d2 pIx (dVar 3) (dC (.int 0)))) dA0))))) (sRet (dC (.bl false))) sNext))) sNext)) [2, 3])
  (sSeq (sFor (iRg1 (dAl qLen (dAc (dVar 1) dA0))) (tName 2) (sIf (bVal (d2 pIn (dVar 2) (dCompL (iSeq (dAl _law_climb (dAc (dVar 1) (dAc (dVar 2) dA0)))) (tName 3) bYes (d2 pIx (dVar 3) (dC (.int 0))) [3] mLst))) (sRet (dC (.bl false))) sNext) [2])
  (sRet (dC (.bl true))))))
noncomputable def _law_kept : List PV → M PV := dFn 2 4
  (sSeq (sFor (iRg1 (dAl qLen (dAc (dVar 1) dA0))) (tName 2) (sFor (iRg1 (dVar 2)) (tName 3) (sIf (bVal (d2 pNotIn (dAl _law_standing (dAc (dVar 1) (dAc (dVar 2) (dAc (dVar 3) dA0)))) (d2 pIx (dVar 0) (dAl mTup (dAc (dVar 2) (dAc (dVar 3) dA0)))))) (sRet (dC (.bl false))) sNext) [3]) [2, 3])
  (sRet (dC (.bl true))))
end Lib
set_option Elab.async false
set_option linter.all false
set_option maxRecDepth 100000
set_option maxHeartbeats 2000000
/-! LibS: what the draws of a law give. -/
namespace Lib
open PySem PySem.Spec PyProof.Rows L2 DN
theorem take_spec {Q : PV → Store → Prop} {st : Store} {s : Nat} {top : Int} (hs : SrcAt st s) (h0 : 0 < top) (h1 : top < B200) (q : ∀ i st', 0 ≤ i → i < top → Dr s st st' → Q (.int i) st') : wp (_law_take [.ref s, .int top] st) Q := by
  obtain ⟨a, b, e, ha, hb⟩ := hs
  have hlt : s < st.length := (List.getElem?_eq_some_iff.mp e).1
  simp only [B200_eq] at h1
  refine wp_dFn rfl ?_
  by_cases h : 0 < a
  · simp [wp_ixR e, h, h0, h1]
    have d : Dr s st (st.set s (.lst [.int (a / top), .int b])) := .inr ⟨_, _, Int.ediv_nonneg ha (Int.le_of_lt h0), hb, rfl⟩
    exact wp_setL e (j := 0) (by rfl) (Gc.dr0 (s := s) (by simp) d (q _ _ (Int.emod_nonneg _ (by omega)) (Int.emod_lt_of_pos _ h0) d))
  · simp [wp_ixR e, h]
    have hc : 0 ≤ (b * 39373 + 7) % 2147483647 ∧ (b * 39373 + 7) % 2147483647 < 2147483647 := ⟨Int.emod_nonneg _ (by omega), Int.emod_lt_of_pos _ (by omega)⟩
    generalize (b * 39373 + 7) % 2147483647 = c at hc
    refine wp_setL e (j := 1) (by rfl) ?_
    have e2 : (st.set s (.lst [.int a, .int c]))[s]? = some (.lst [.int a, .int c]) := by rw [List.getElem?_set_self hlt]
    simp [wp_ixR e2, h0]
    have d : Dr s st (st.set s (.lst [.int a, .int c])) := .inr ⟨_, _, ha, hc.1, rfl⟩
    exact ⟨by omega, Gc.dr0 (s := s) (by simp) d (q _ _ (Int.emod_nonneg _ (by omega)) (Int.emod_lt_of_pos _ h0) d)⟩
theorem toD0s_ints : ∀ ns : List Int, toD0s (ns.map PV.int) = some (ns.map PyData.int)
  | [] => by simp [toD0s]
  | n :: ns => by simp [toD0s, toD0, toD0s_ints ns]
theorem ints_shaped (ns : List Int) : SeqAt.shaped (.list (ns.map PyData.int)) = true := by
  have : PyData.canLayAll0 (ns.map PyData.int) = true ∧ PyData.depthAll (ns.map PyData.int) ≤ 0 := canLayAll_of fun d hd => by
    obtain ⟨i, _, rfl⟩ := List.mem_map.mp hd
    simp [PyData.canLay0, PyData.depth]
  refine shaped_of (by simpa [PyData.canLay0] using this.1) ?_
  simp only [PyData.depth]
  omega
theorem wp_neScr {Q : PV → Store → Prop} {st : Store} {ns : List Int} : wp (pNe (.scr (ns.map PV.int)) (.lst []) st) Q = Q (.bl (!decide (ns = []))) st := by
  have h1 : toD (.scr (ns.map PV.int)) st = some (.list (ns.map PyData.int)) := by simp [toD, toD0, toD0s_ints]
  have h2 : toD (.lst []) st = some (.list []) := by simp [toD, toD0, toD0s]
  have h3 := ints_shaped ns
  have h4 := ints_shaped []
  simp only [List.map_nil] at h4
  have h5 : PyData.eqv (.list (ns.map PyData.int)) (.list []) = decide (ns = []) := by cases ns <;> simp [PyData.eqv, PyData.eqvAll]
  simp only [pNe, pEqB, h1, h2, h3, h4, h5, and_self, if_true, Res.bind, wp_ok]
theorem pool_spec {Q : PV → Store → Prop} {st : Store} {ns : List Int} {k : Int} (hk : 0 ≤ k) (hk2 : k < 1000) (q : ∀ a b : Int, 0 ≤ a → 0 ≤ b → Q (.ref st.length) (st ++ [.lst [.int a, .int b]])) : wp (_law_pool [.scr (ns.map PV.int), .int k] st) Q := by
  refine wp_dFnK rfl ?_
  have b1 : (-18446744073709551616 < k ∧ k < 18446744073709551616) := by omega
  have m0 : ∀ (p : Prop) [Decidable p], (if p then (1 : Int) else 0) ≥ 0 ∧ (if p then (1 : Int) else 0) < 2 := fun p _ => by split <;> omega
  have x0 : ∀ c : Int, 0 ≤ (if c < -1 - c then -1 - c else c) := fun c => by split <;> omega
  by_cases h : k < (ns.length : Int)
  · obtain ⟨v, e, hv, _⟩ := atI_some (l := ns.map PV.int) hk (by simpa using h)
    obtain ⟨c, _, rfl⟩ := List.mem_map.mp hv
    simp [h, e, b1]
    exact ⟨fun _ => q _ _ (x0 c) (Int.emod_nonneg _ (by omega)), fun _ => q _ _ (by omega) (Int.emod_nonneg _ (by omega))⟩
  · by_cases h2 : ns = []
    · subst h2
      have h3 : ¬ (k < 0) := by omega
      have w := fun (Q : PV → Store → Prop) => wp_neScr (Q := Q) (st := st) (ns := [])
      simp only [List.map_nil] at w
      simp [h3, b1, w]
      exact q _ _ (by omega) (Int.emod_nonneg _ (by omega))
    · obtain ⟨c, r, rfl⟩ := List.exists_cons_of_ne_nil h2
      have w := fun (Q : PV → Store → Prop) => wp_neScr (Q := Q) (st := st) (ns := c :: r)
      simp only [List.map_cons] at w
      have h' : ¬ (k < (r.length : Int) + 1) := by simpa using h
      simp [h', b1, w]
      exact ⟨fun _ => q _ _ (by omega) (Int.emod_nonneg _ (by omega)), fun _ => q _ _ (by omega) (Int.emod_nonneg _ (by omega))⟩
theorem one_spec {Q : PV → Store → Prop} {st : Store} {s : Nat} {l : List PV} (hs : SrcAt st s) (h0 : l ≠ []) (h1 : l.length ≤ SZ) (hc : cls l = true) (q : ∀ v st', v ∈ l → Dr s st st' → Q v st') : wp (_law_one [.ref s, .lst l] st) Q := by
  refine wp_dFn rfl ?_
  have hl : 0 < l.length := List.length_pos_iff.mpr h0
  simp only [SZ_lit] at h1
  simp
  refine take_spec hs (by omega) (by simp only [B200_eq]; omega) fun i st' h2 h3 hd => ?_
  obtain ⟨v, e, hv, _⟩ := atI_some (l := l) h2 h3
  simp [e]
  exact Gc.dr0 (s := s) (cls_iff.mp hc v hv) hd (q v st' hv hd)
end Lib
set_option Elab.async false
set_option linter.all false
set_option maxRecDepth 100000
set_option maxHeartbeats 2000000
/-! LibF: forests. -/
namespace Lib
open PySem PySem.Spec PyProof.Rows L2 DN
abbrev Pl := Option (Nat × Nat)
def nv (n : Nat) : PV := .int n
def rv (R : List Nat) : PV := .tup (R.map nv)
def pp (h : Nat × Nat) : PV := .tup [.int h.1, .int h.2]
def pv : Pl → PV
  | none => .non
  | some h => pp h
@[simp] theorem isNon_pp {h : Nat × Nat} : DN.isNon (pp h) = false := rfl
@[simp] theorem isNon_pvS {h : Nat × Nat} : DN.isNon (pv (some h)) = false := rfl
@[simp] theorem isNon_pvN : DN.isNon (pv none) = true := rfl
def fv (F : List Pl) : PV := .tup (F.map pv)
def up (F : List Pl) (x : Nat) : Pl := (F[x]?).getD none
def clb (F : List Pl) : Nat → Pl → List (Nat × Nat)
  | 0, _ => []
  | _ + 1, none => []
  | k + 1, some h => h :: clb F k (up F h.1)
def Wf (F : List Pl) : Prop := ∀ p, some p ∈ F → p.1 < F.length
theorem up_mem {F : List Pl} {x : Nat} {h : Nat × Nat} (e : up F x = some h) : some h ∈ F := by
  unfold up at e
  cases q : F[x]? with
  | none => rw [q] at e; cases e
  | some p => rw [q] at e; simp at e; subst e; exact List.mem_of_getElem? q
theorem atI_map {α β : Type} {f : α → β} {l : List α} {i : Nat} (h : i < l.length) : atI (l.map f) (i : Int) = some (f l[i]) := by
  rw [atI_int (by omega) (by simpa using h)]
  simp [h]
theorem atI_fv {F : List Pl} {x : Nat} (h : x < F.length) : atI (F.map pv) (x : Int) = some (pv (up F x)) := by
  rw [atI_map h]
  simp [up, h]
def rm (R : List Nat) (x : Nat) : Nat := (R[x]?).getD 0
theorem atI_rv {R : List Nat} {x : Nat} (h : x < R.length) : atI (R.map nv) (x : Int) = some (.int (rm R x)) := by
  rw [atI_map h]
  simp [rm, h, nv]
section
variable {Q : PV → Store → Prop} {st : Store} {F : List Pl} {R : List Nat} {x y : Nat}
theorem rgN {n : Nat} (h : n ≤ 1000) : rgOk (n : Int) = true := rgOk_small (by omega) (by omega)
theorem cls_pp (l : List (Nat × Nat)) : cls (l.map pp) = true := cls_iff.mpr fun p hp => by
  obtain ⟨h, _, rfl⟩ := List.mem_map.mp hp
  simp [pp]
theorem climb_spec (hw : Wf F) (hx : x < F.length) (hz : F.length ≤ 1000) (q : Q (.lst ((clb F F.length (up F x)).map pp)) st) : wp (_law_climb [fv F, .int x] st) Q := by
  refine wp_fn ?_
  simp [fv, atI_fv hx, rgN hz]
  refine wps_forRo (fun i σ st' => ∃ (k : Nat) (p : Pl) (acc : List (Nat × Nat)), i = (F.length : Int) - k ∧ k ≤ F.length ∧ σ = [some (fv F), some (.int x), none, some (.ref st.length), some (pv p)] ∧ st' = st ++ [.lst (acc.map pp)] ∧ acc ++ clb F k p = clb F F.length (up F x) ∧ acc.length + k = F.length ∧ (p ∈ F ∨ p = none)) ?_ ?_ ?_
  · rintro I hI i σ st' ⟨k, p, acc, rfl, hk, rfl, rfl, e, hl, hp⟩ hi
    obtain ⟨k, rfl⟩ : ∃ m, k = m + 1 := ⟨k - 1, by omega⟩
    simp
    cases p with
    | none =>
      simp [clb] at e
      simp [pv, wipeA]
      exact Gc.lstP (junk := [.lst (acc.map pp)]) (n := st.length) (l := acc.map pp) (cls_pp _) rfl (Nat.le_refl _) (by simp) (by rw [e]; exact q)
    | some h =>
      have hh := hw h (hp.resolve_right (by simp))
      simp [pv]
      refine ⟨isL_ref (l := acc.map pp) (by simp), wp_append (l := acc.map pp) (by simp) (by simp only [List.length_map, SZ_lit]; omega) ?_⟩
      simp [pp, fv, atI_fv hh, wipeA]
      refine hI _ _ _ ⟨k, up F h.1, acc ++ [h], by omega, by omega, rfl, by simp [pp], by rw [← e]; simp [clb], by simp; omega, ?_⟩
      cases q : up F h.1 with
      | none => exact .inr rfl
      | some h' => exact .inl (up_mem q)
  · rintro i σ st' ⟨k, p, acc, rfl, hk, rfl, rfl, e, hl, hp⟩ hi
    have : k = 0 := by omega
    subst this
    simp [clb] at e
    simp [wipeA]
    exact Gc.lstP (junk := [.lst (acc.map pp)]) (n := st.length) (l := acc.map pp) (cls_pp _) rfl (Nat.le_refl _) (by simp) (by rw [e]; exact q)
  · refine ⟨F.length, up F x, [], by omega, by omega, rfl, rfl, rfl, by simp, ?_⟩
    cases q : up F x with
    | none => exact .inr rfl
    | some h' => exact .inl (up_mem q)
inductive Sd where
  | ap | inn (r : Nat) | aro (r : Nat)
  deriving DecidableEq
def sv : Sd → PV
  | .ap => .tup [.str ("apart" : Str), .int 0]
  | .inn r => .tup [.str ("in" : Str), .int r]
  | .aro r => .tup [.str ("around" : Str), .int r]
def std (F : List Pl) (x y : Nat) : Sd := match (clb F F.length (up F x)).find? fun h => decide (h.1 = y) with
  | some h => .inn h.2
  | none => match (clb F F.length (up F y)).find? fun h => decide (h.1 = x) with
    | some h => .aro h.2
    | none => .ap
theorem cl_sv {s : Sd} : cl (sv s) = true := by cases s <;> simp [sv]
theorem standing_spec (hw : Wf F) (hx : x < F.length) (hy : y < F.length) (hz : F.length ≤ 1000) (q : Q (sv (std F x y)) st) : wp (_law_standing [fv F, .int x, .int y] st) Q := by
  refine wp_fn ?_
  simp
  refine climb_spec hw hx hz ?_
  simp
  refine wps_forM (fun r σ st' => σ = [some (fv F), some (.int x), some (.int y), none, none] ∧ st = st' ∧ (clb F F.length (up F x)).find? (fun h => decide (h.1 = y)) = r.find? (fun h => decide (h.1 = y))) _ ?_ ?_ ⟨rfl, rfl, rfl⟩
  · rintro I hI p r σ st' ⟨rfl, rfl, e⟩
    simp [pp]
    by_cases h : p.1 = y
    · simp [h]
      refine Gc.same (by simp) ?_
      simpa [std, e, h, sv] using q
    · rw [cnd_neg (decide_eq_false (by omega))]
      simp [wipeA]
      exact hI _ _ _ ⟨rfl, rfl, by rw [e]; simp [h]⟩
  · rintro σ st2 ⟨rfl, rfl, e⟩
    simp [wipeA]
    refine climb_spec hw hy hz ?_
    simp
    refine wps_forM (fun r σ st' => σ = [some (fv F), some (.int x), some (.int y), none, none] ∧ st = st' ∧ (clb F F.length (up F y)).find? (fun h => decide (h.1 = x)) = r.find? (fun h => decide (h.1 = x))) _ ?_ ?_ ⟨rfl, rfl, rfl⟩
    · rintro I hI p r σ st' ⟨rfl, rfl, e2⟩
      simp [pp]
      by_cases h : p.1 = x
      · simp [h]
        refine Gc.same (by simp) ?_
        simpa [std, e, e2, h, sv] using q
      · rw [cnd_neg (decide_eq_false (by omega))]
        simp [wipeA]
        exact hI _ _ _ ⟨rfl, rfl, by rw [e2]; simp [h]⟩
    · rintro σ st' ⟨rfl, rfl, e2⟩
      try simp [wipeA]
      refine Gc.same (by simp) ?_
      simpa [std, e, e2, sv] using q
end
end Lib
set_option Elab.async false
set_option linter.all false
set_option maxRecDepth 100000
set_option maxHeartbeats 2000000
/-! LibG: what is a forest. -/
namespace Lib
open PySem PySem.Spec PyProof.Rows L2 DN
section
variable {Q : PV → Store → Prop} {st : Store} {F : List Pl} {R : List Nat} {x y : Nat} {p : PV}
def isWh : PV → Bool
  | .int _ => true
  | _ => false
theorem whole_spec (hp : dab 20 p = true) (q : Q (.bl (isWh p)) st) : wp (is_whole [p] st) Q := by
  refine wp_fn ?_
  simp [wp_isInt hp, wp_isBool hp]
  cases p <;> simp [isIn, isBo, isWh] at * <;> exact Gc.same (by simp) q
def nmB (m : Int) : PV → Bool
  | .int i => decide (0 ≤ i) && decide (i < m)
  | _ => false
theorem number_spec {m : Int} (hp : dab 20 p = true) (q : Q (.bl (nmB m p)) st) : wp (_law_number [p, .int m] st) Q := by
  refine wp_fn ?_
  simp [wp_isInt hp, wp_isBool hp]
  cases p <;> simp [isIn, isBo, nmB] at *
  case int i =>
    by_cases h : 0 ≤ i <;> simp [h] at *
    · exact Gc.same (by simp) q
    · exact Gc.same (by simp) q
  all_goals exact Gc.same (by simp) q
/-- a right place of x -/
def plB (R : List Nat) (x : Nat) : PV → Bool
  | .non => true
  | .tup [.int h, .int r] => decide (0 ≤ h) && (decide (h < R.length) && (!decide (h = x) && (decide (0 ≤ r) && decide (r < rm R h.toNat))))
  | _ => false
theorem atI_rvI {h : Int} (h0 : 0 ≤ h) (h1 : h < R.length) : atI (R.map nv) h = some (.int (rm R h.toNat)) := by
  have := atI_rv (R := R) (x := h.toNat) (by omega)
  rwa [show ((h.toNat : Nat) : Int) = h by omega] at this
theorem place_spec (hp : dab 20 p = true) (q : Q (.bl (plB R x p)) st) : wp (is_place [rv R, .int x, p] st) Q := by
  refine wp_fn ?_
  cases p with
  | non => simp; exact Gc.same (by simp) q
  | tup l =>
    match l with
    | [] => simp [wp_isTup hp, isTp]; exact Gc.same (by simp) q
    | [a] => simp [wp_isTup hp, isTp]; exact Gc.same (by simp) (by cases a <;> exact q)
    | a :: b :: c :: l => simp [wp_isTup hp, isTp]; rw [cnd_neg (by simp; omega)]; exact Gc.same (by simp) (by cases a <;> cases b <;> exact q)
    | [a, b] =>
      have ha : dab 20 a = true := dab_mono (n := 19) (by omega) (by simp [dab] at hp; exact hp.1)
      have hb : dab 20 b = true := dab_mono (n := 19) (by omega) (by simp [dab] at hp; exact hp.2)
      simp [wp_isTup hp, isTp]
      refine whole_spec ha ?_
      simp
      cases a with
      | int h =>
        simp [isWh]
        refine whole_spec hb ?_
        simp
        cases b with
        | int r =>
          simp [isWh, rv]
          by_cases h0 : 0 ≤ h
          · by_cases h1 : h < R.length
            · by_cases h2 : h = x
              · subst h2
                have h1' : x < R.length := by omega
                simp [h1']
                exact Gc.same (by simp) (by simpa [plB, h1'] using q)
              · simp [h0, h1, h2, atI_rvI h0 h1]
                by_cases h3 : 0 ≤ r
                · simp [h3]
                  exact Gc.same (by simp) (by simpa [plB, h0, h1, h2, h3] using q)
                · simp [h3]
                  exact Gc.same (by simp) (by simpa [plB, h0, h1, h2, h3] using q)
            · simp [h0, h1]
              exact Gc.same (by simp) (by simpa [plB, h0, h1] using q)
          · simp [h0]
            exact Gc.same (by simp) (by simpa [plB, h0] using q)
        | _ => simp [isWh]; exact Gc.same (by simp) q
      | _ => simp [isWh]; exact Gc.same (by simp) (by cases b <;> exact q)
  | _ => first | (simp [dab] at hp; done) | (simp [wp_isTup hp, isTp]; exact Gc.same (by simp) q)
/-- the first wrong place -/
def fb (R : List Nat) : Nat → List PV → Option Nat
  | _, [] => none
  | i, p :: r => if plB R i p then fb R (i + 1) r else some i
def ov : Option Nat → PV
  | none => .non
  | some i => .int i
theorem cl_ov {o : Option Nat} : cl (ov o) = true := by cases o <;> simp [ov]
theorem first_bad_spec {l : List PV} (hl : ∀ p ∈ l, dab 20 p = true) (q : Q (ov (fb R 0 l)) st) : wp (first_bad [rv R, .tup l] st) Q := by
  refine wp_fn ?_
  simp
  refine wps_forLo (fun m σ st' => ∃ i r, m = DN.numbered i r ∧ σ = [some (rv R), some (.tup l), none, none] ∧ st = st' ∧ (∀ p ∈ r, p ∈ l) ∧ fb R 0 l = fb R i r) _ ?_ ?_ ⟨0, l, rfl, rfl, rfl, fun _ h => h, rfl⟩
  · rintro I hI p m σ st' ⟨i, r, e, rfl, rfl, hm, e2⟩
    cases r with
    | nil => cases e
    | cons a r =>
      simp only [DN.numbered, List.cons.injEq] at e
      obtain ⟨rfl, rfl⟩ := e
      simp
      refine place_spec (hl _ (hm _ List.mem_cons_self)) ?_
      simp
      cases h : plB R i a with
      | false =>
        simp
        exact Gc.same (by simp) (by simpa [e2, fb, h, ov] using q)
      | true =>
        simp [wipeA]
        exact hI _ _ _ ⟨_, _, rfl, rfl, rfl, fun p hp => hm p (List.mem_cons_of_mem _ hp), by rw [e2]; simp [fb, h]⟩
  · rintro σ st' ⟨i, r, e, rfl, rfl, hm, e2⟩
    cases r with
    | nil =>
      try simp [wipeA]
      exact Gc.same (by simp) (by simpa [e2, fb, ov] using q)
    | cons a r => cases e
/-- x lies in itself -/
def inIt (F : List Pl) (x : Nat) : Bool := (clb F F.length (up F x)).any fun h => decide (h.1 = x)
theorem lies_spec (hw : Wf F) (hx : x < F.length) (hz : F.length ≤ 1000) (q : Q (.bl (inIt F x)) st) : wp (lies_in_itself [fv F, .int x] st) Q := by
  refine wp_fn ?_
  simp [fv, rgN hz]

  refine wps_forRo (fun i σ st' => ∃ (k h : Nat), i = (F.length : Int) - k ∧ k ≤ F.length ∧ σ = [some (fv F), some (.int x), some (.int h), none] ∧ st = st' ∧ h < F.length ∧ inIt F x = (clb F k (up F h)).any fun h => decide (h.1 = x)) ?_ ?_ ?_
  · rintro I hI i σ st' ⟨k, h, rfl, hk, rfl, rfl, hh, e⟩ hi
    obtain ⟨k, rfl⟩ : ∃ m, k = m + 1 := ⟨k - 1, by omega⟩
    simp [fv, atI_fv hh]
    cases u : up F h with
    | none =>
      simp
      exact Gc.same (by simp) (by simpa [e, u, clb] using q)
    | some g =>
      have hg := hw g (up_mem u)
      simp
      simp [pv, pp]
      by_cases z : g.1 = x
      · simp [z]
        exact Gc.same (by simp) (by simpa [e, u, clb, z] using q)
      · rw [cnd_neg (decide_eq_false (by omega))]
        simp [wipeA]
        exact hI _ _ _ ⟨k, g.1, by omega, by omega, rfl, rfl, hg, by rw [e, u]; simp [clb, z]⟩
  · rintro i σ st' ⟨k, h, rfl, hk, rfl, rfl, hh, e⟩ hi
    have : k = 0 := by omega
    subst this
    try simp [wipeA]
    exact Gc.same (by simp) (by simpa [e, clb] using q)
  · exact ⟨F.length, x, by omega, by omega, rfl, rfl, hx, rfl⟩
/-- the first thing that lies in itself, from i on -/
def fr (F : List Pl) : Nat → Nat → Option Nat
  | 0, _ => none
  | k + 1, i => if inIt F i then some i else fr F k (i + 1)
theorem first_ring_spec (hw : Wf F) (hz : F.length ≤ 1000) (q : Q (ov (fr F F.length 0)) st) : wp (first_ring [fv F] st) Q := by
  refine wp_fn ?_
  simp [fv, rgN hz]
  refine wps_forRo (fun i σ st' => ∃ (k h : Nat), i = (h : Int) ∧ k + h = F.length ∧ σ = [some (fv F), none] ∧ st = st' ∧ fr F F.length 0 = fr F k h) ?_ ?_ ?_
  · rintro I hI i σ st' ⟨k, h, rfl, hk, rfl, rfl, e⟩ hi
    obtain ⟨k, rfl⟩ : ∃ m, k = m + 1 := ⟨k - 1, by omega⟩
    simp
    refine lies_spec hw (by omega) hz ?_
    simp
    cases z : inIt F h with
    | true =>
      simp
      exact Gc.same (by simp) (by simpa [e, fr, z, ov] using q)
    | false =>
      simp [wipeA]
      exact hI _ _ _ ⟨k, h + 1, by omega, by omega, rfl, rfl, by rw [e]; simp [fr, z]⟩
  · rintro i σ st' ⟨k, h, rfl, hk, rfl, rfl, e⟩ hi
    have : k = 0 := by omega
    subst this
    try simp [wipeA]
    exact Gc.same (by simp) (by simpa [e, fr, ov] using q)
  · exact ⟨F.length, 0, rfl, by omega, rfl, rfl, rfl⟩
/-- rooms are right -/
def roB : PV → Bool
  | .tup l => decide (l.length ≤ 24) && l.all fun p => nmB 5 p
  | _ => false
theorem rooms_ok_spec (hp : dab 20 p = true) (q : Q (.bl (roB p)) st) : wp (is_rooms [p] st) Q := by
  refine wp_fn ?_
  cases p with
  | tup l =>
    have hl : ∀ p ∈ l, dab 19 p = true := by simpa [dab] using hp
    simp [wp_isTup hp, isTp]
    by_cases h : l.length ≤ 24
    · rw [cnd_neg (decide_eq_false (by omega))]
      try simp
      have key := fun QL e1 e2 => wp_lcF (g := id) (t := tName 1) (QL := QL) (st := st) (σ := [some (.tup l), none]) (c := bOr (bNot (bTruth (dAl is_whole (dAc (dVar 1) dA0)))) (bNot (bVal (dChain pLe pLe (dC (.int 0)) (dVar 1) (dC (.int 4)))))) (e := dVar 1) (fun p => !nmB 5 p) id l e1 e2
      simp only [List.map_id] at key
      refine key _ ?_ ?_
      · intro p h1
        simp
        refine whole_spec (dab_mono (by omega) (hl p h1)) ?_
        cases p <;> simp [isWh, nmB]
        case int i =>
          by_cases h2 : 0 ≤ i
          · simp [h2]
            omega
          · simp [h2]
      · have := List.length_filter_le (fun p => !nmB 5 p) l
        refine ⟨by omega, ?_⟩
        rw [wp_eqNil (List.all_eq_true.mpr fun p hp => dab_mono (by omega) (hl p (List.mem_filter.mp hp).1))]
        refine Gc.same (by simp) ?_
        have e : (l.filter fun p => !nmB 5 p).isEmpty = roB (.tup l) := by
          rw [Bool.eq_iff_iff]
          simp [roB, h]
        rw [e]
        exact q
    · rw [cnd_pos (decide_eq_true (by omega))]
      exact Gc.same (by simp) (by simpa [roB, h] using q)
  | _ => first | (simp [dab] at hp; done) | (simp [wp_isTup hp, isTp]; exact Gc.same (by simp) q)
end
end Lib
set_option Elab.async false
set_option linter.all false
set_option maxRecDepth 100000
set_option maxHeartbeats 2000000
/-! LibH: forests, judged by the program and by the law. -/
namespace Lib
open PySem PySem.Spec PyProof.Rows L2 DN
section
variable {Q : PV → Store → Prop} {st : Store} {F : List Pl} {R : List Nat} {x y : Nat} {p f : PV}
/-- rooms as they may be -/
def okR (R : List Nat) : Prop := R.length ≤ 24 ∧ ∀ r ∈ R, r ≤ 4
def okF (R : List Nat) (F : List Pl) : Prop := F.length = R.length ∧ ∀ x, x < F.length → ∀ h, up F x = some h → h.1 < R.length ∧ h.1 ≠ x ∧ h.2 < rm R h.1
theorem okF.wf (h : okF R F) : Wf F := fun p hp => by
  obtain ⟨i, hi, e⟩ := List.mem_iff_getElem.mp hp
  have := h.2 i hi p (by simp [up, hi, e])
  rw [h.1]
  exact this.1
theorem roB_rv (h : okR R) : roB (rv R) = true := by
  simp [roB, rv]
  refine ⟨h.1, fun p hp => ?_⟩
  have := h.2 p hp
  simp [nv, nmB]
  omega
theorem dab_rv {n : Nat} : dab (n + 1) (rv R) = true := by
  cases n <;> simp [rv, dab, nv]
theorem plB_pv {q : Pl} (h : ∀ h, q = some h → h.1 < R.length ∧ h.1 ≠ x ∧ h.2 < rm R h.1) : plB R x (pv q) = true := by
  cases q with
  | none => rfl
  | some g =>
    obtain ⟨h1, h2, h3⟩ := h g rfl
    simp [pv, pp, plB]
    omega
theorem plB_of (h : plB R x p = true) : ∃ q : Pl, p = pv q ∧ ∀ h, q = some h → h.1 < R.length ∧ h.1 ≠ x ∧ h.2 < rm R h.1 := by
  unfold plB at h
  split at h
  · exact ⟨none, rfl, fun _ h => by cases h⟩
  · rename_i a b
    simp only [Bool.and_eq_true, decide_eq_true_eq, Bool.not_eq_true', decide_eq_false_iff_not] at h
    refine ⟨some (a.toNat, b.toNat), ?_, fun g hg => ?_⟩
    · simp only [pv, pp]
      rw [show ((a.toNat : Nat) : Int) = a by omega, show ((b.toNat : Nat) : Int) = b by omega]
    · cases hg
      simp only
      omega
  · cases h
theorem fb_none : ∀ {l : List PV} {i : Nat}, fb R i l = none ↔ ∀ j (h : j < l.length), plB R (i + j) l[j] = true
  | [], i => by simp [fb]
  | p :: l, i => by
    unfold fb
    cases h : plB R i p with
    | true =>
      rw [if_pos rfl, fb_none (l := l)]
      constructor
      · intro z j hj
        cases j with
        | zero => simpa using h
        | succ j => have := z j (by simpa using hj); rw [show i + (j + 1) = i + 1 + j by omega]; simpa using this
      · intro z j hj
        have := z (j + 1) (by simpa using hj)
        rw [show i + 1 + j = i + (j + 1) by omega]; simpa using this
    | false =>
      simp
      refine ⟨0, by omega, ?_⟩
      simpa using h
theorem fb_forest {l : List PV} (h : fb R 0 l = none) (hl : l.length = R.length) : ∃ F, l = F.map pv ∧ okF R F := by
  rw [fb_none] at h
  have key : ∀ (l : List PV) (i : Nat), (∀ j (h : j < l.length), plB R (i + j) l[j] = true) → ∃ F : List Pl, l = F.map pv ∧ ∀ j, j < F.length → ∀ h, up F j = some h → h.1 < R.length ∧ h.1 ≠ i + j ∧ h.2 < rm R h.1 := by
    intro l
    induction l with
    | nil => intro i _; exact ⟨[], rfl, fun j hj => by simp at hj⟩
    | cons p l ih =>
      intro i h
      obtain ⟨F, e, hF⟩ := ih (i + 1) fun j hj => by
        have := h (j + 1) (by simpa using hj)
        rw [show i + 1 + j = i + (j + 1) by omega]; simpa using this
      obtain ⟨q, rfl, hq⟩ := plB_of (x := i) (by simpa using h 0 (by simp))
      refine ⟨q :: F, by simp [e], fun j hj g hg => ?_⟩
      cases j with
      | zero => exact hq g (by simpa [up] using hg)
      | succ j =>
        have := hF j (by simpa using hj) g (by simpa [up] using hg)
        rwa [show i + 1 + j = i + (j + 1) by omega] at this
  obtain ⟨F, e, hF⟩ := key l 0 h
  refine ⟨F, e, by rw [← hl, e]; simp, fun x hx h hh => ?_⟩
  have := hF x hx h hh
  simpa using this
theorem fb_ok (h : okF R F) : fb R 0 (F.map pv) = none := by
  rw [fb_none]
  intro j hj
  have hj' : j < F.length := by simpa using hj
  have e : (F.map pv)[j] = pv (up F j) := by simp [up, hj']
  rw [e]
  exact plB_pv fun g hg => by simpa using h.2 j hj' g hg
theorem fr_none : ∀ {k i : Nat}, fr F k i = none ↔ ∀ j, j < k → inIt F (i + j) = false
  | 0, i => by simp [fr]
  | k + 1, i => by
    unfold fr
    cases h : inIt F i with
    | true =>
      simp
      exact ⟨0, by omega, by simpa using h⟩
    | false =>
      rw [if_neg (by simp), fr_none (k := k)]
      constructor
      · intro z j hj
        cases j with
        | zero => simpa using h
        | succ j => rw [show i + (j + 1) = i + 1 + j by omega]; exact z j (by omega)
      · intro z j hj
        rw [show i + 1 + j = i + (j + 1) by omega]; exact z (j + 1) (by omega)
/-- a forest of these rooms -/
def IsF (R : List Nat) (f : PV) : Prop := ∃ F, f = fv F ∧ okF R F ∧ ∀ x, x < F.length → inIt F x = false
theorem map_pv_inj {F G : List Pl} (h : F.map pv = G.map pv) : F = G := by
  have inj : ∀ a b : Pl, pv a = pv b → a = b := by
    intro a b h
    cases a with
    | none => cases b with
      | none => rfl
      | some b => cases h
    | some a => cases b with
      | none => cases h
      | some b =>
        simp only [pv, pp, PV.tup.injEq, List.cons.injEq, PV.int.injEq, and_true] at h
        obtain ⟨a1, a2⟩ := a
        obtain ⟨b1, b2⟩ := b
        simp only at h
        have h1 : a1 = b1 := by omega
        have h2 : a2 = b2 := by omega
        rw [h1, h2]
  exact (List.map_inj_right inj).mp h
theorem fv_inj {F G : List Pl} (h : fv F = fv G) : F = G := map_pv_inj (by simpa [fv] using h)
theorem isF_iff (h : okF R F) : IsF R (fv F) ↔ fr F F.length 0 = none := by
  rw [fr_none]
  constructor
  · rintro ⟨G, e, _, h2⟩ j hj
    cases fv_inj e
    simpa using h2 j hj
  · exact fun z => ⟨F, rfl, h, fun x hx => by simpa using z x hx⟩
@[simp] theorem isNon_ov {o : Option Nat} : DN.isNon (ov o) = o.isNone := by cases o <;> rfl
theorem clb_len : ∀ (k : Nat) (p : Pl), (clb F k p).length ≤ k
  | 0, _ => by simp [clb]
  | k + 1, none => by simp [clb]
  | k + 1, some h => by simp [clb, clb_len k (up F h.1)]
open Classical in
theorem forest_spec (hR : okR R) (hf : dab 20 f = true) (q : Q (.bl (decide (IsF R f))) st) : wp (is_forest [rv R, f] st) Q := by
  refine wp_fn ?_
  simp
  refine rooms_ok_spec dab_rv ?_
  simp [roB_rv hR]
  have no : ∀ b, b = false → (¬ IsF R f) → Gc st (.bl b) st Q := fun b hb hn => by
    subst hb
    exact Gc.same (by simp) (by simpa [hn] using q)
  cases f with
  | tup l =>
    simp [wp_isTup hf, isTp]
    simp [rv]
    by_cases hl : l.length = R.length
    · simp [hl]
      have hd : ∀ p ∈ l, dab 20 p = true := fun p hp => dab_mono (n := 19) (by omega) (by simp [dab] at hf; exact hf p hp)
      refine first_bad_spec hd ?_
      simp
      cases hb : fb R 0 l with
      | some i =>
        simp
        refine no _ rfl ?_
        rintro ⟨F, e, h, _⟩
        cases e
        rw [fb_ok h] at hb
        cases hb
      | none =>
        obtain ⟨F, rfl, h⟩ := fb_forest hb hl
        simp
        refine first_ring_spec h.wf (by rw [h.1]; exact Nat.le_trans hR.1 (by omega)) ?_
        simp
        refine Gc.same (by simp) ?_
        have e : (fr F F.length 0).isNone = decide (IsF R (fv F)) := by
          rw [Bool.eq_iff_iff, decide_eq_true_eq, isF_iff h, Option.isNone_iff_eq_none]
        rw [e]
        exact q
    · rw [cnd_neg (decide_eq_false (by omega))]
      refine no _ rfl ?_
      rintro ⟨F, e, h, _⟩
      cases e
      exact hl (by simpa using h.1)
  | _ => first | (simp [dab] at hf; done) | (simp [wp_isTup hf, isTp]; exact no _ rfl (by rintro ⟨F, e, _⟩; cases e))
theorem isF_of {l : List PV} (hl : l.length = R.length) (hb : fb R 0 l = none) : ∃ F, l = F.map pv ∧ okF R F ∧ (IsF R (.tup l) ↔ fr F F.length 0 = none) := by
  obtain ⟨F, rfl, h⟩ := fb_forest hb hl
  exact ⟨F, rfl, h, isF_iff h⟩
theorem isF_not {l : List PV} {i : Nat} (hb : fb R 0 l = some i) : ¬ IsF R (.tup l) := by
  rintro ⟨F, e, h, _⟩
  cases e
  rw [fb_ok h] at hb
  cases hb
theorem wp_inInts {l : List Int} {i : Int} : wp (pIn (.int i) (.lst (l.map PV.int)) st) Q = Q (.bl (l.any fun j => decide (j = i))) st := by
  rw [wp_inL (by simp [dpv]) (by simp [dpv])]
  congr 2
  rw [Bool.eq_iff_iff]
  simp
open Classical in
theorem law_forest_spec (hR : okR R) (hf : dab 20 f = true) (q : Q (.bl (decide (IsF R f))) st) : wp (_law_is_forest [rv R, f] st) Q := by
  refine wp_fn ?_
  simp
  have no : ∀ b, b = false → (¬ IsF R f) → Gc st (.bl b) st Q := fun b hb hn => by
    subst hb
    exact Gc.same (by simp) (by simpa [hn] using q)
  cases f with
  | tup l =>
    simp [wp_isTup hf, isTp]
    simp [rv]
    by_cases hl : l.length = R.length
    · simp [hl]
      have hz : R.length ≤ 1000 := Nat.le_trans hR.1 (by omega)
      have hd : ∀ p ∈ l, dab 20 p = true := fun p hp => dab_mono (n := 19) (by omega) (by simp [dab] at hf; exact hf p hp)
      simp [rgN hz]
      refine wps_forRo (fun i σ st' => ∃ k : Nat, i = (k : Int) ∧ k ≤ R.length ∧ σ = [some (rv R), some (.tup l), none, none] ∧ st = st' ∧ fb R 0 l = fb R k (l.drop k)) ?_ ?_ ?_
      · rintro I hI i σ st' ⟨k, rfl, hk, rfl, rfl, e⟩ hi
        have hkl : k < l.length := by omega
        have hd1 := hd l[k] (List.getElem_mem hkl)
        have ha : atI l (k : Int) = some l[k] := by
          have := atI_map (f := id) hkl
          simpa using this
        rw [List.drop_eq_getElem_cons hkl] at e
        generalize l[k] = p at *
        have next : plB R k p = true → I ((k : Int) + 1) [some (rv R), some (.tup l), none, none] st := fun h => hI _ _ _ ⟨k + 1, by omega, by omega, rfl, rfl, by rw [e]; simp [fb, h]⟩
        have bad : plB R k p = false → Gc st (.bl false) st Q := fun h => no _ rfl (isF_not (i := k) (by rw [e]; simp [fb, h]))
        simp [ha]
        cases p with
        | non => simp [wipeA]; exact next rfl
        | tup m =>
          match m with
          | [] => simp [wp_isTup hd1, isTp]; exact bad rfl
          | [a] => simp [wp_isTup hd1, isTp]; exact bad (by cases a <;> rfl)
          | a :: b :: c :: m => simp [wp_isTup hd1, isTp]; rw [cnd_neg (by simp; omega)]; exact bad (by cases a <;> cases b <;> rfl)
          | [a, b] =>
            have ha : dab 20 a = true := dab_mono (n := 19) (by omega) (by simp [dab] at hd1; exact hd1.1)
            have hb : dab 20 b = true := dab_mono (n := 19) (by omega) (by simp [dab] at hd1; exact hd1.2)
            simp [wp_isTup hd1, isTp]
            simp [rv]
            refine number_spec ha ?_
            simp
            cases a with
            | int h =>
              simp [nmB]
              by_cases h0 : 0 ≤ h
              · by_cases h1 : h < R.length
                · simp [h0, h1]
                  by_cases h2 : h = k
                  · simp [h2]
                    exact bad (by cases b <;> simp [plB, h2])
                  · simp [h2, atI_rvI h0 h1]
                    refine number_spec hb ?_
                    cases b with
                    | int r =>
                      simp [nmB]
                      by_cases h3 : 0 ≤ r ∧ r < rm R h.toNat
                      · simp [h3, wipeA]
                        exact next (by simp [plB, h0, h1, h2, h3])
                      · have : (decide (0 ≤ r) && decide (r < ↑(rm R h.toNat))) = false := by simpa using h3
                        simp [this]
                        exact bad (by simp [plB, h0, h1, h2, this])
                    | _ => simp [nmB]; exact bad rfl
                · simp [h0, h1]
                  exact bad (by cases b <;> simp [plB, h0, h1])
              · simp [h0]
                exact bad (by cases b <;> simp [plB, h0])
            | _ => simp [nmB]; exact bad (by cases b <;> rfl)
        | _ => first | (simp [dab] at hd1; done) | (simp [wp_isTup hd1, isTp]; exact bad rfl)
      · rintro i σ st' ⟨k, rfl, hk, rfl, rfl, e⟩ hi
        have : k = R.length := by omega
        subst this
        rw [← hl, List.drop_length] at e
        obtain ⟨F, rfl, h, hF⟩ := isF_of hl e
        simp [wipeA]
        refine ⟨rgN (by rw [h.1]; exact hz), ?_⟩
        refine wps_forRo (fun i σ st' => ∃ k j : Nat, i = (j : Int) ∧ k + j = F.length ∧ σ = [some (rv R), some (fv F), none, none] ∧ st = st' ∧ fr F F.length 0 = fr F k j) ?_ ?_ ?_
        · rintro I hI i σ st' ⟨k, j, rfl, hk, rfl, rfl, e⟩ hi
          obtain ⟨k, rfl⟩ : ∃ m, k = m + 1 := ⟨k - 1, by omega⟩
          simp
          refine climb_spec h.wf (by omega) (by rw [h.1]; exact hz) ?_
          simp
          refine wp_lcA (fun h => .int h.1) _ (fun p hp => by simp [pp, wipeA]) ?_
          have hc : (clb F F.length (up F j)).length ≤ 1000 := Nat.le_trans (clb_len _ _) (by rw [h.1]; exact hz)
          simp
          refine ⟨by omega, ?_⟩
          have eq1 : (clb F F.length (up F j)).map (fun h => PV.int h.1) = ((clb F F.length (up F j)).map fun h => (h.1 : Int)).map PV.int := by simp
          rw [eq1, wp_inInts]
          have eq2 : (((clb F F.length (up F j)).map fun h => (h.1 : Int)).any fun i => decide (i = (j : Int))) = inIt F j := by
            simp only [List.any_map, inIt]
            congr 1
            funext h
            simp only [Function.comp, decide_eq_decide]
            omega
          rw [eq2]
          cases z : inIt F j with
          | true =>
            simp
            refine no _ rfl ?_
            intro hc
            have := hF.mp hc
            rw [e] at this
            simp [fr, z] at this
          | false =>
            simp [wipeA]
            exact hI _ _ _ ⟨k, j + 1, by omega, by omega, rfl, rfl, by rw [e]; simp [fr, z]⟩
        · rintro i σ st' ⟨k, j, rfl, hk, rfl, rfl, e⟩ hi
          have : k = 0 := by omega
          subst this
          try simp [wipeA]
          exact Gc.same (by simp) (by have := hF.mpr (by rw [e]; rfl); simpa [this] using q)
        · exact ⟨F.length, 0, rfl, by omega, rfl, rfl, rfl⟩
      · exact ⟨0, rfl, by omega, rfl, rfl, rfl⟩
    · rw [cnd_neg (decide_eq_false (by omega))]
      refine no _ rfl ?_
      rintro ⟨F, e, h, _⟩
      cases e
      exact hl (by simpa using h.1)
  | _ => first | (simp [dab] at hf; done) | (simp [wp_isTup hf, isTp]; exact no _ rfl (by rintro ⟨F, e, _⟩; cases e))
end
end Lib
set_option Elab.async false
set_option linter.all false
set_option maxRecDepth 100000
set_option maxHeartbeats 2000000
/-! LibI: standings. -/
namespace Lib
open PySem PySem.Spec PyProof.Rows L2 DN
section
variable {Q : PV → Store → Prop} {st : Store} {F : List Pl} {R : List Nat} {x y : Nat} {p f : PV}
def noR (F : List Pl) : Prop := ∀ x, x < F.length → inIt F x = false
/-- the climb comes to the floor within k steps -/
def ends (F : List Pl) : Nat → Pl → Prop
  | _, none => True
  | 0, some _ => False
  | k + 1, some h => ends F k (up F h.1)
theorem clb_sub : ∀ {k m : Nat} {p : Pl}, k ≤ m → ∀ h ∈ clb F k p, h ∈ clb F m p
  | 0, _, _, _, _, h => by simp [clb] at h
  | k + 1, 0, _, z, _, _ => by omega
  | k + 1, m + 1, none, _, _, h => by simp [clb] at h
  | k + 1, m + 1, some g, z, a, h => by
    simp only [clb, List.mem_cons] at h ⊢
    exact h.imp id (clb_sub (by omega) a)
theorem nodes_nodup (hw : Wf F) (hn : noR F) : ∀ (k : Nat) (x : Nat), k ≤ F.length → x < F.length → (x :: (clb F k (up F x)).map (·.1)).Nodup
  | 0, x, _, _ => by simp [clb]
  | k + 1, x, hk, hx => by
    cases u : up F x with
    | none => simp [clb]
    | some h =>
      have ih := nodes_nodup hw hn k h.1 (by omega) (hw h (up_mem u))
      simp only [clb, List.map_cons]
      refine List.nodup_cons.mpr ⟨fun hm => ?_, ih⟩
      have := hn x hx
      unfold inIt at this
      rw [List.any_eq_false] at this
      have e : h.1 :: (clb F k (up F h.1)).map (·.1) = (clb F (k + 1) (up F x)).map (·.1) := by rw [u]; simp [clb]
      rw [e] at hm
      obtain ⟨g, hg, eg⟩ := List.mem_map.mp hm
      exact this g (clb_sub hk g hg) (by simpa using eg)
theorem nodup_bound : ∀ (n : Nat) (l : List Nat), l.Nodup → (∀ a ∈ l, a < n) → l.length ≤ n
  | 0, l, _, h => by
    cases l with
    | nil => simp
    | cons a l => exact absurd (h a List.mem_cons_self) (by omega)
  | n + 1, l, hd, h => by
    have h1 := nodup_bound n (l.erase n) (hd.erase n) fun a ha => by
      have h2 := h a (List.mem_of_mem_erase ha)
      have h3 : a ≠ n := fun e => by subst e; exact (hd.not_mem_erase) ha
      omega
    have h4 := List.length_erase_le (a := n) (l := l)
    by_cases hm : n ∈ l
    · rw [List.length_erase_of_mem hm] at h1
      omega
    · rw [List.erase_of_not_mem hm] at h1
      omega
theorem clb_full : ∀ (k : Nat) (p : Pl), ¬ ends F k p → (clb F k p).length = k
  | _, none, h => (h (by simp [ends])).elim
  | 0, some _, _ => by simp [clb]
  | k + 1, some h, z => by
    simp only [clb, List.length_cons, clb_full k (up F h.1) (by simpa [ends] using z)]
theorem clb_lt (hw : Wf F) : ∀ (k : Nat) (p : Pl), (∀ h, p = some h → h.1 < F.length) → ∀ h ∈ clb F k p, h.1 < F.length
  | 0, _, _, _, h => by simp [clb] at h
  | k + 1, none, _, _, h => by simp [clb] at h
  | k + 1, some g, hp, a, h => by
    simp only [clb, List.mem_cons] at h
    rcases h with rfl | h
    · exact hp a rfl
    · exact clb_lt hw k _ (fun h hh => hw h (up_mem hh)) a h
theorem ends_all (hw : Wf F) (hn : noR F) (hx : x < F.length) : ends F F.length (up F x) := by
  refine Classical.byContradiction fun h => ?_
  have h1 := clb_full _ _ h
  have h2 := nodes_nodup hw hn F.length x (Nat.le_refl _) hx
  have h3 := nodup_bound F.length _ h2 fun a ha => by
    rcases List.mem_cons.mp ha with rfl | ha
    · exact hx
    · obtain ⟨g, hg, rfl⟩ := List.mem_map.mp ha
      exact clb_lt hw _ _ (fun h hh => hw h (up_mem hh)) g hg
  simp only [List.length_cons, List.length_map, h1] at h3
  omega
/-- the room of y by which x lies in y -/
def rmw (F : List Pl) (x y : Nat) : Option Nat := ((clb F F.length (up F x)).find? fun h => decide (h.1 = y)).map (·.2)
theorem room_way_spec (hw : Wf F) (hn : noR F) (hx : x < F.length) (q : Q (ov (rmw F x y)) st) : wp (room_way [fv F, .int x, .int y] st) Q := by
  refine wp_fn ?_
  simp [fv, atI_fv hx]
  refine wps_whileO (fun k σ st' => ∃ p, σ = [some (fv F), some (.int x), some (.int y), some (pv p)] ∧ st = st' ∧ ends F k p ∧ (∀ h, p = some h → h.1 < F.length) ∧ rmw F x y = ((clb F k p).find? fun h => decide (h.1 = y)).map (·.2)) ?_ F.length ⟨_, rfl, rfl, ends_all hw hn hx, fun h hh => hw h (up_mem hh), rfl⟩
  rintro I hI k σ st' ⟨p, rfl, rfl, he, hp, e⟩
  cases p with
  | none =>
    simp
    refine Gc.same (by simp) ?_
    have : rmw F x y = none := by rw [e]; cases k <;> simp [clb]
    simpa [this, ov] using q
  | some h =>
    cases k with
    | zero => simp [ends] at he
    | succ k =>
      have hh := hp h rfl
      simp
      simp [pv, pp]
      by_cases z : h.1 = y
      · rw [cnd_pos (decide_eq_true (by omega))]
        refine Gc.same (by simp) ?_
        have : rmw F x y = some h.2 := by rw [e]; simp [clb, z]
        simpa [this, ov] using q
      · rw [cnd_neg (decide_eq_false (by omega))]
        simp [fv, atI_fv hh, wipeA]
        refine ⟨k, by omega, hI _ _ _ ⟨_, rfl, rfl, by simpa [ends] using he, fun g hg => hw g (up_mem hg), ?_⟩⟩
        rw [e]
        simp [clb, z]
theorem standing_in_spec (hw : Wf F) (hn : noR F) (hx : x < F.length) (hy : y < F.length) (q : Q (sv (std F x y)) st) : wp (standing_in [fv F, .int x, .int y] st) Q := by
  refine wp_fn ?_
  simp
  refine room_way_spec hw hn hx ?_
  simp
  cases h : rmw F x y with
  | some r =>
    simp [ov]
    refine Gc.same (by simp) ?_
    unfold rmw at h
    obtain ⟨g, hg, rfl⟩ := Option.map_eq_some_iff.mp h
    simpa [std, hg, sv] using q
  | none =>
    simp
    refine room_way_spec hw hn hy ?_
    simp
    unfold rmw at h
    rw [Option.map_eq_none_iff] at h
    cases h2 : rmw F y x with
    | some r =>
      simp [ov]
      refine Gc.same (by simp) ?_
      unfold rmw at h2
      obtain ⟨g, hg, rfl⟩ := Option.map_eq_some_iff.mp h2
      simpa [std, h, hg, sv] using q
    | none =>
      simp
      unfold rmw at h2
      rw [Option.map_eq_none_iff] at h2
      exact Gc.same (by simp) (by simpa [std, h, h2, sv] using q)
def allS (R : List Nat) (x y : Nat) : List Sd := .ap :: ((List.range (rm R y)).map .inn ++ (List.range (rm R x)).map .aro)
theorem rm_le (hR : okR R) : rm R x ≤ 4 := by
  unfold rm
  cases h : R[x]? with
  | none => simp
  | some r => simpa using hR.2 r (List.mem_of_getElem? h)
theorem every_spec (hR : okR R) (hx : x < R.length) (hy : y < R.length) (q : Q (.lst ((allS R x y).map sv)) st) : wp (_law_every [rv R, .int x, .int y] st) Q := by
  have h1 := rm_le (x := x) hR
  have h2 := rm_le (x := y) hR
  refine wp_fn ?_
  simp [rv, atI_rv hx, atI_rv hy]
  refine ⟨rgN (by omega), ?_⟩
  rw [rgP_nat]
  refine wp_lcA (fun r => sv (.inn r)) _ (fun r _ => by simp [sv, wipeA]) ?_
  simp
  refine ⟨by omega, rgN (by omega), ?_⟩
  rw [rgP_nat]
  refine wp_lcA (fun r => sv (.aro r)) _ (fun r _ => by simp [sv, wipeA]) ?_
  simp
  refine ⟨by omega, by omega, by omega, ?_⟩
  refine Gc.same ?_ ?_
  · simp [cls_iff]
    exact ⟨fun a _ => cl_sv, fun a _ => cl_sv⟩
  · simpa [allS, sv, Function.comp_def] using q
theorem all_standings_spec (hR : okR R) (hx : x < R.length) (hy : y < R.length) (q : Q (.tup ((allS R x y).map sv)) st) : wp (all_standings [rv R, .int x, .int y] st) Q := by
  have h1 := rm_le (x := x) hR
  have h2 := rm_le (x := y) hR
  refine wp_fn ?_
  simp [rv, atI_rv hx, atI_rv hy]
  refine ⟨rgN (by omega), ?_⟩
  rw [rgP_nat]
  refine wp_lcA (fun r => sv (.inn r)) _ (fun r _ => by simp [sv, wipeA]) ?_
  simp
  refine ⟨by omega, by omega, rgN (by omega), ?_⟩
  rw [rgP_nat]
  refine wp_lcA (fun r => sv (.aro r)) _ (fun r _ => by simp [sv, wipeA]) ?_
  simp
  refine ⟨by omega, by omega, ?_⟩
  refine Gc.same ?_ ?_
  · simp [cls_iff]
    exact ⟨fun a _ => cl_sv, fun a _ => cl_sv⟩
  · simpa [allS, sv, Function.comp_def] using q
end
end Lib
set_option Elab.async false
set_option linter.all false
set_option maxRecDepth 100000
set_option maxHeartbeats 2000000
/-! LibJ: sayings, books. -/
namespace Lib
open PySem PySem.Spec PyProof.Rows L2 DN
section
variable {Q : PV → Store → Prop} {st : Store} {F : List Pl} {R : List Nat} {x y : Nat} {p f : PV}
theorem nd_inj {α : Type} {l : List α} (h : l.Nodup) {i j : Nat} (hi : i < l.length) (hj : j < l.length) (e : l[i] = l[j]) : i = j := by
  have p := List.pairwise_iff_getElem.mp h
  rcases Nat.lt_trichotomy i j with z | z | z
  · exact absurd e (p i j hi hj z)
  · exact z
  · exact absurd e.symm (p j i hj hi z)
theorem sv_inj {a b : Sd} (h : sv a = sv b) : a = b := by
  cases a <;> cases b <;> simp [sv, Str.ofString] at h <;> first | rfl | (congr 1; omega) | exact absurd h.1 (by decide +kernel)
theorem dpv_sv {s : Sd} {n : Nat} (h : 1 ≤ n) : dpv n (sv s) = true := by
  obtain ⟨m, rfl⟩ : ∃ m, n = m + 1 := ⟨n - 1, by omega⟩
  cases s <;> cases m <;> simp [sv, dpv] <;> decide +kernel
theorem dab_sv {s : Sd} {n : Nat} (h : 1 ≤ n) : dab n (sv s) = true := by
  obtain ⟨m, rfl⟩ : ∃ m, n = m + 1 := ⟨n - 1, by omega⟩
  cases s <;> cases m <;> simp [sv, dab] <;> decide +kernel
theorem mem_sv {s : Sd} {l : List Sd} : sv s ∈ l.map sv ↔ s ∈ l := by
  rw [List.mem_map]
  exact ⟨fun ⟨a, h, e⟩ => sv_inj e ▸ h, fun h => ⟨s, h, rfl⟩⟩
theorem all_sv {l : List Sd} {n : Nat} (h : 1 ≤ n) : (l.map sv).all (dpv n) = true := by
  rw [List.all_eq_true]
  intro p hp
  obtain ⟨s, _, rfl⟩ := List.mem_map.mp hp
  exact dpv_sv h
theorem wp_inSvT {s : Sd} {L : List Sd} : wp (pIn (sv s) (.tup (L.map sv)) st) Q = Q (.bl (decide (s ∈ L))) st := by
  rw [wp_inT (dpv_sv (by omega)) (all_sv (by omega))]
  congr 2
  rw [decide_eq_decide]
  exact mem_sv
theorem wp_inSvL {s : Sd} {L : List Sd} : wp (pIn (sv s) (.lst (L.map sv)) st) Q = Q (.bl (decide (s ∈ L))) st := by
  rw [wp_inL (dpv_sv (by omega)) (all_sv (by omega))]
  congr 2
  rw [decide_eq_decide]
  exact mem_sv
theorem wp_notInSvT {s : Sd} {L : List Sd} : wp (pNotIn (sv s) (.tup (L.map sv)) st) Q = Q (.bl (!decide (s ∈ L))) st := by
  rw [wp_notInT (dpv_sv (by omega)) (all_sv (by omega))]
  congr 3
  rw [decide_eq_decide]
  exact mem_sv
theorem wp_notInSvL {s : Sd} {L : List Sd} : wp (pNotIn (sv s) (.lst (L.map sv)) st) Q = Q (.bl (!decide (s ∈ L))) st := by
  rw [wp_notInL (dpv_sv (by omega)) (all_sv (by omega))]
  congr 3
  rw [decide_eq_decide]
  exact mem_sv
theorem allS_nodup : (allS R x y).Nodup := by
  unfold allS
  refine List.nodup_cons.mpr ⟨by simp, ?_⟩
  rw [List.nodup_append]
  refine ⟨?_, ?_, ?_⟩
  · rw [List.nodup_iff_pairwise_ne, List.pairwise_map]
    exact (List.nodup_iff_pairwise_ne.mp List.nodup_range).imp fun h e => h (by injection e)
  · rw [List.nodup_iff_pairwise_ne, List.pairwise_map]
    exact (List.nodup_iff_pairwise_ne.mp List.nodup_range).imp fun h e => h (by injection e)
  · rintro a ha b hb rfl
    obtain ⟨_, _, rfl⟩ := List.mem_map.mp ha
    obtain ⟨_, _, e⟩ := List.mem_map.mp hb
    cases e
/-- a tuple of a text and a number -/
def isSI : PV → Bool
  | .tup [.str _, .int _] => true
  | _ => false
open Classical in
theorem is_standing_spec (hR : okR R) (hx : x < R.length) (hy : y < R.length) (hp : dab 20 p = true) (q : Q (.bl (decide (p ∈ (allS R x y).map sv))) st) : wp (is_standing [rv R, .int x, .int y, p] st) Q := by
  refine wp_fn ?_
  have no : ∀ b, b = false → (isSI p = false) → Gc st (.bl b) st Q := fun b hb hn => by
    subst hb
    refine Gc.same (by simp) ?_
    have : ¬ p ∈ (allS R x y).map sv := fun h => by
      obtain ⟨s, _, rfl⟩ := List.mem_map.mp h
      cases s <;> cases hn
    simpa [this] using q
  cases p with
  | tup l =>
    match l with
    | [] => simp [wp_isTup hp, isTp]; exact no _ rfl rfl
    | [a] => simp [wp_isTup hp, isTp]; exact no _ rfl (by cases a <;> rfl)
    | a :: b :: c :: l => simp [wp_isTup hp, isTp]; rw [cnd_neg (by simp; omega)]; exact no _ rfl (by cases a <;> cases b <;> rfl)
    | [a, b] =>
      have ha : dab 20 a = true := dab_mono (n := 19) (by omega) (by simp [dab] at hp; exact hp.1)
      have hb : dab 20 b = true := dab_mono (n := 19) (by omega) (by simp [dab] at hp; exact hp.2)
      simp [wp_isTup hp, isTp, wp_isStr ha]
      cases a with
      | str z =>
        simp [isSt]
        refine whole_spec hb ?_
        simp
        cases b with
        | int r =>
          simp [isWh]
          refine all_standings_spec hR hx hy ?_
          have hd : dpv 63 (.tup [.str z, .int r]) = true := by simpa [dpv, dab] using ha
          rw [wp_inT hd (all_sv (by omega))]
          refine Gc.same (by simp) ?_
          exact q
        | _ => simp [isWh]; exact no _ rfl rfl
      | _ => simp [isSt]; exact no _ rfl rfl
  | _ => first | (simp [dab] at hp; done) | (simp [wp_isTup hp, isTp]; exact no _ rfl rfl)
theorem idxD_at {n : Nat} : ∀ {l : List PV} {ds : List PyData} {d : PyData} {y : PV} {j : Nat}, dpv n y = true → toD0 y = some d → l.all (dpv n) = true → toD0s l = some ds → l[j]? = some y → (∀ i, i < j → l[i]? ≠ some y) → idxD d ds = some j
  | [], _, _, _, _, _, _, _, _, h, _ => by simp at h
  | p :: l, ds, d, y, j, hy, hd, h, e, hj, hn => by
    simp only [toD0s] at e
    obtain ⟨d', a1, e⟩ := Option.bind_eq_some_iff.mp e
    obtain ⟨ds', a2, rfl⟩ := Option.map_eq_some_iff.mp e
    simp only [List.all_cons, Bool.and_eq_true] at h
    unfold idxD
    cases j with
    | zero =>
      simp only [List.getElem?_cons_zero, Option.some.injEq] at hj
      rw [if_pos ((eqv_dpv h.1 hy a1 hd).mpr hj)]
    | succ j =>
      have h0 := hn 0 (by omega)
      simp only [List.getElem?_cons_zero, ne_eq, Option.some.injEq] at h0
      rw [if_neg (fun z => h0 ((eqv_dpv h.1 hy a1 hd).mp z))]
      have ih := idxD_at (l := l) (j := j) hy hd h.2 a2 (by simpa using hj) fun i hi => by simpa using hn (i + 1) (by omega)
      rw [ih]
      rfl
theorem wp_indexT {l : List PV} {j : Nat} (hl : l.all (dpv 20) = true) (hy : dpv 20 y' = true) (hj : l[j]? = some y') (hn : ∀ i, i < j → l[i]? ≠ some y') (q : Q (.int j) st) : wp (mIndexT (.tup l) [y'] st) Q := by
  obtain ⟨d, e1, c1, z1⟩ := dpv_d 20 y' hy
  have hl' : dpv 21 (.tup l) = true := by simpa [dpv] using hl
  obtain ⟨e, e2, c2, z2⟩ := dpv_d 21 _ hl'
  simp only [toD0] at e2
  obtain ⟨ds, e3, rfl⟩ := Option.map_eq_some_iff.mp e2
  have t1 : toD y' st = some d := by cases y' <;> first | exact e1 | (simp [dpv] at hy)
  have t2 : toD (.tup l) st = some (.tuple ds) := by simp [toD, toD0, e3]
  have s1 := shaped_of c1 (by omega)
  have s2 := shaped_of c2 (by omega)
  simp only [mIndexT, t1, t2, s1, s2, and_self, if_true, idxD_at hy e1 hl e3 hj hn]
  exact wp_ok.mpr q
/-- a right lot of standings of two things -/
def IsL (R : List Nat) (x y : Nat) (p : PV) : Prop := ∃ L : List Sd, p = .tup (L.map sv) ∧ L.Sublist (allS R x y)
theorem sub_drop {l L : List Sd} {s : Sd} {b i : Nat} (hn : l.Nodup) (hi : l[i]? = some s) (hb : b ≤ i) : (s :: L).Sublist (l.drop b) ↔ L.Sublist (l.drop (i + 1)) := by
  have hil : i < l.length := (List.getElem?_eq_some_iff.mp hi).1
  have hsi : l[i] = s := (List.getElem?_eq_some_iff.mp hi).2
  constructor
  · intro h
    obtain ⟨r1, r2, e, h1, h2⟩ := List.cons_sublist_iff.mp h
    have e2 : l.drop b = (l.drop b).take (i + 1 - b) ++ l.drop (i + 1) := by
      conv => lhs; rw [← List.take_append_drop (i + 1 - b) (l.drop b)]
      rw [List.drop_drop, show b + (i + 1 - b) = i + 1 by omega]
    obtain ⟨k, hk, ek⟩ := List.mem_iff_getElem.mp h1
    have hr : r1.length ≤ (l.drop b).length := by rw [e]; simp
    have : (l.drop b)[k]? = some s := by rw [e, List.getElem?_append_left hk, List.getElem?_eq_getElem hk, ek]
    rw [List.getElem?_drop] at this
    have hbk : b + k < l.length := (List.getElem?_eq_some_iff.mp this).1
    have hbk2 : l[b + k] = s := (List.getElem?_eq_some_iff.mp this).2
    have : b + k = i := nd_inj hn _ _ (hbk2.trans hsi.symm)
    have e3 : l.drop (i + 1) = (r1 ++ r2).drop (k + 1) := by rw [← e, List.drop_drop, show b + (k + 1) = i + 1 by omega]
    rw [e3, List.drop_append]
    exact h2.trans (by rw [show k + 1 - r1.length = 0 by omega]; simp)
  · intro h
    have e : l.drop b = (l.drop b).take (i - b) ++ (s :: l.drop (i + 1)) := by
      conv => lhs; rw [← List.take_append_drop (i - b) (l.drop b)]
      rw [List.drop_drop, show b + (i - b) = i by omega, List.drop_eq_getElem_cons hil, hsi]
    rw [e]
    exact List.Sublist.trans (h.cons₂ s) (List.sublist_append_right _ _)
theorem not_sub_drop {l L : List Sd} {s : Sd} {b i : Nat} (hn : l.Nodup) (hi : l[i]? = some s) (hb : i < b) : ¬ (s :: L).Sublist (l.drop b) := by
  intro h
  have hil : i < l.length := (List.getElem?_eq_some_iff.mp hi).1
  have hsi : l[i] = s := (List.getElem?_eq_some_iff.mp hi).2
  have hm : s ∈ l.drop b := h.subset List.mem_cons_self
  obtain ⟨k, hk⟩ := List.mem_iff_getElem?.mp hm
  rw [List.getElem?_drop] at hk
  have hbk : b + k < l.length := (List.getElem?_eq_some_iff.mp hk).1
  have hbk2 : l[b + k] = s := (List.getElem?_eq_some_iff.mp hk).2
  have := nd_inj hn _ _ (hbk2.trans hsi.symm)
  omega
open Classical in
theorem lets_spec (hR : okR R) (hx : x < R.length) (hy : y < R.length) (hp : dab 20 p = true) (q : Q (.bl (decide (IsL R x y p))) st) : wp (is_lets [rv R, .int x, .int y, p] st) Q := by
  refine wp_fn ?_
  have no : ∀ b, b = false → (¬ IsL R x y p) → Gc st (.bl b) st Q := fun b hb hn => by
    subst hb
    exact Gc.same (by simp) (by simpa [hn] using q)
  cases p with
  | tup l =>
    have hd : ∀ p ∈ l, dab 20 p = true := fun p h => dab_mono (n := 19) (by omega) (by simp [dab] at hp; exact hp p h)
    simp [wp_isTup hp, isTp]
    refine all_standings_spec hR hx hy ?_
    try simp
    refine wps_forLo (fun r σ st' => ∃ b : Nat, σ = [some (rv R), some (.int x), some (.int y), some (.tup l), some (.tup ((allS R x y).map sv)), some (.int ((b : Int) - 1)), none, none] ∧ st = st' ∧ (∀ p ∈ r, p ∈ l) ∧ (IsL R x y (.tup l) ↔ ∃ L : List Sd, r = L.map sv ∧ L.Sublist ((allS R x y).drop b))) _ ?_ ?_ ⟨0, rfl, rfl, fun p h => h, ?_⟩
    · rintro I hI p r σ st' ⟨b, rfl, rfl, hm, e⟩
      simp
      refine is_standing_spec hR hx hy (hd p (hm p List.mem_cons_self)) ?_
      simp
      by_cases hs : p ∈ (allS R x y).map sv
      · obtain ⟨s, hs', rfl⟩ := List.mem_map.mp hs
        obtain ⟨i, hi, ei⟩ := List.mem_iff_getElem.mp hs'
        have hi' : (allS R x y)[i]? = some s := by rw [List.getElem?_eq_getElem hi, ei]
        rw [cnd_pos (by simpa using ⟨s, hs', rfl⟩)]
        refine ⟨by simp [isT, isF, isW, allS, sv], ?_⟩
        refine wp_indexT (j := i) (all_sv (by omega)) (dpv_sv (by omega)) (by rw [List.getElem?_map, hi']; rfl) (fun k hk hz => ?_) ?_
        · rw [List.getElem?_map] at hz
          obtain ⟨s', h1, h2⟩ := Option.map_eq_some_iff.mp hz
          have := sv_inj h2
          subst this
          have hkl := (List.getElem?_eq_some_iff.mp h1).1
          have := nd_inj (allS_nodup (R := R) (x := x) (y := y)) _ _ ((List.getElem?_eq_some_iff.mp h1).2.trans ei.symm)
          omega
        · simp
          by_cases hb : i < b
          · rw [cnd_pos (decide_eq_true (by omega))]
            refine no _ rfl ?_
            rw [e]
            rintro ⟨L, hL, h⟩
            cases L with
            | nil => cases hL
            | cons s' L =>
              simp only [List.map_cons, List.cons.injEq] at hL
              have := sv_inj hL.1
              subst this
              exact not_sub_drop allS_nodup hi' hb h
          · rw [cnd_neg (decide_eq_false (by omega))]
            simp [wipeA]
            refine hI _ _ _ ⟨i + 1, by simp, rfl, fun p h => hm p (List.mem_cons_of_mem _ h), ?_⟩
            rw [e]
            constructor
            · rintro ⟨L, hL, h⟩
              cases L with
              | nil => cases hL
              | cons s' L =>
                simp only [List.map_cons, List.cons.injEq] at hL
                have := sv_inj hL.1
                subst this
                exact ⟨L, hL.2, (sub_drop allS_nodup hi' (by omega)).mp h⟩
            · rintro ⟨L, rfl, h⟩
              exact ⟨s :: L, rfl, (sub_drop allS_nodup hi' (by omega)).mpr h⟩
      · rw [cnd_neg (by simpa using hs)]
        refine no _ rfl ?_
        rw [e]
        rintro ⟨L, hL, h⟩
        cases L with
        | nil => cases hL
        | cons s L =>
          simp only [List.map_cons, List.cons.injEq] at hL
          rw [hL.1] at hs
          exact hs (mem_sv.mpr (List.drop_subset _ _ (h.subset List.mem_cons_self)))
    · rintro σ st' ⟨b, rfl, rfl, hm, e⟩
      try simp [wipeA]
      refine Gc.same (by simp) ?_
      have : IsL R x y (.tup l) := e.mpr ⟨[], rfl, by simp⟩
      simpa [this] using q
    · unfold IsL
      simp
  | _ => first | (simp [dab] at hp; done) | (simp [wp_isTup hp, isTp]; exact no _ rfl (by rintro ⟨L, e, _⟩; cases e))
end
end Lib
set_option Elab.async false
set_option linter.all false
set_option maxRecDepth 100000
set_option maxHeartbeats 2000000
/-! LibK: sayings, books. -/
namespace Lib
open PySem PySem.Spec PyProof.Rows L2 DN
section
variable {Q : PV → Store → Prop} {st : Store} {F : List Pl} {R : List Nat} {x y : Nat} {p f : PV}
theorem thing_spec (hp : dab 20 p = true) (q : Q (.bl (nmB R.length p)) st) : wp (is_thing [rv R, p] st) Q := by
  refine wp_fn ?_
  simp
  refine whole_spec hp ?_
  simp
  cases p with
  | int i =>
    simp [isWh, rv]
    by_cases h : 0 ≤ i
    · simp [h]
      exact Gc.same (by simp) (by simpa [nmB, h] using q)
    · simp [h]
      exact Gc.same (by simp) (by simpa [nmB, h] using q)
  | _ => simp [isWh]; exact Gc.same (by simp) q
structure Sy where
  x : Nat
  y : Nat
  lot : List Sd
def syv (s : Sy) : PV := .tup [.int s.x, .int s.y, .tup (s.lot.map sv)]
def okSy (R : List Nat) (s : Sy) : Prop := s.x < R.length ∧ s.y < R.length ∧ s.x ≠ s.y ∧ s.lot.Sublist (allS R s.x s.y)
def IsSy (R : List Nat) (p : PV) : Prop := ∃ s, p = syv s ∧ okSy R s
theorem dab_one {n : Nat} {l : List PV} (h : dab (n + 1) (.tup l) = true) {p : PV} (hp : p ∈ l) : dab n p = true := by
  simp only [dab, List.all_eq_true] at h
  exact h p hp
open Classical in
theorem says_spec (hR : okR R) (hp : dab 20 p = true) (q : Q (.bl (decide (IsSy R p))) st) : wp (says_right [rv R, p] st) Q := by
  refine wp_fn ?_
  have no : ∀ b, b = false → (¬ IsSy R p) → Gc st (.bl b) st Q := fun b hb hn => by
    subst hb
    exact Gc.same (by simp) (by simpa [hn] using q)
  cases p with
  | tup l =>
    match l with
    | [] => simp [wp_isTup hp, isTp]; exact no _ rfl (by rintro ⟨s, e, _⟩; cases e)
    | [a] => simp [wp_isTup hp, isTp]; exact no _ rfl (by rintro ⟨s, e, _⟩; cases e)
    | [a, b] => simp [wp_isTup hp, isTp]; exact no _ rfl (by rintro ⟨s, e, _⟩; cases e)
    | a :: b :: c :: d :: l => simp [wp_isTup hp, isTp]; rw [cnd_neg (by simp; omega)]; exact no _ rfl (by rintro ⟨s, e, _⟩; cases e)
    | [a, b, c] =>
      have ha : dab 20 a = true := dab_mono (n := 19) (by omega) (dab_one hp (by simp))
      have hb : dab 20 b = true := dab_mono (n := 19) (by omega) (dab_one hp (by simp))
      have hc : dab 20 c = true := dab_mono (n := 19) (by omega) (dab_one hp (by simp))
      simp [wp_isTup hp, isTp]
      refine thing_spec ha ?_
      simp
      cases h1 : nmB R.length a with
      | false =>
        simp
        refine no _ rfl ?_
        rintro ⟨s, e, h⟩
        cases e
        have := h.1
        simp [nmB] at h1
        omega
      | true =>
        simp
        refine thing_spec hb ?_
        simp
        cases h2 : nmB R.length b with
        | false =>
          simp
          refine no _ rfl ?_
          rintro ⟨s, e, h⟩
          cases e
          have := h.2.1
          simp [nmB] at h2
          omega
        | true =>
          cases a <;> simp [nmB] at h1
          rename_i i
          cases b <;> simp [nmB] at h2
          rename_i j
          simp
          obtain ⟨x, rfl⟩ : ∃ x : Nat, i = x := ⟨i.toNat, by omega⟩
          obtain ⟨y, rfl⟩ : ∃ y : Nat, j = y := ⟨j.toNat, by omega⟩
          by_cases h3 : x = y
          · rw [cnd_pos (decide_eq_true (by omega))]
            refine no _ rfl ?_
            rintro ⟨s, e, h⟩
            simp [syv] at e
            exact h.2.2.1 (by omega)
          · rw [cnd_neg (decide_eq_false (by omega))]
            refine lets_spec hR (by omega) (by omega) hc ?_
            refine Gc.same (by simp) ?_
            have e : decide (IsL R x y c) = decide (IsSy R (.tup [.int x, .int y, c])) := by
              rw [decide_eq_decide]
              constructor
              · rintro ⟨L, rfl, h⟩
                exact ⟨⟨x, y, L⟩, rfl, by show x < _; omega, by show y < _; omega, h3, h⟩
              · rintro ⟨s, e, h⟩
                simp [syv] at e
                obtain ⟨e1, e2, e3⟩ := e
                have e1 : s.x = x := by omega
                have e2 : s.y = y := by omega
                refine ⟨s.lot, e3, ?_⟩
                have := h.2.2.2
                rwa [e1, e2] at this
            rw [e]
            exact q
  | _ => first | (simp [dab] at hp; done) | (simp [wp_isTup hp, isTp]; exact no _ rfl (by rintro ⟨s, e, _⟩; cases e))
open Classical in
/-- the first saying that is none -/
noncomputable def fw (R : List Nat) : Nat → List PV → Option Nat
  | _, [] => none
  | i, p :: r => if IsSy R p then fw R (i + 1) r else some i
open Classical in
theorem first_wrong_spec {l : List PV} (hR : okR R) (hl : ∀ p ∈ l, dab 20 p = true) (q : Q (ov (fw R 0 l)) st) : wp (first_wrong [rv R, .tup l] st) Q := by
  refine wp_fn ?_
  simp
  refine wps_forLo (fun m σ st' => ∃ i r, m = DN.numbered i r ∧ σ = [some (rv R), some (.tup l), none, none] ∧ st = st' ∧ (∀ p ∈ r, p ∈ l) ∧ fw R 0 l = fw R i r) _ ?_ ?_ ⟨0, l, rfl, rfl, rfl, fun _ h => h, rfl⟩
  · rintro I hI p m σ st' ⟨i, r, e, rfl, rfl, hm, e2⟩
    cases r with
    | nil => cases e
    | cons a r =>
      simp only [DN.numbered, List.cons.injEq] at e
      obtain ⟨rfl, rfl⟩ := e
      simp
      refine says_spec hR (hl _ (hm _ List.mem_cons_self)) ?_
      simp
      by_cases h : IsSy R a
      · rw [cnd_pos (decide_eq_true h)]
        simp [wipeA]
        exact hI _ _ _ ⟨_, _, rfl, rfl, rfl, fun p hp => hm p (List.mem_cons_of_mem _ hp), by rw [e2]; simp [fw, h]⟩
      · rw [cnd_neg (decide_eq_false h)]
        exact Gc.same (by simp) (by simpa [e2, fw, h, ov] using q)
  · rintro σ st' ⟨i, r, e, rfl, rfl, hm, e2⟩
    cases r with
    | nil =>
      try simp [wipeA]
      exact Gc.same (by simp) (by simpa [e2, fw, ov] using q)
    | cons a r => cases e
theorem fw_none : ∀ {l : List PV} {i : Nat}, fw R i l = none ↔ ∃ S : List Sy, l = S.map syv ∧ ∀ s ∈ S, okSy R s
  | [], i => by simp [fw]
  | p :: l, i => by
    unfold fw
    by_cases h : IsSy R p
    · rw [if_pos h, fw_none (l := l)]
      constructor
      · rintro ⟨S, rfl, hS⟩
        obtain ⟨s, rfl, hs⟩ := h
        exact ⟨s :: S, rfl, by simpa using ⟨hs, hS⟩⟩
      · rintro ⟨S, e, hS⟩
        cases S with
        | nil => cases e
        | cons s S =>
          simp only [List.map_cons, List.cons.injEq] at e
          exact ⟨S, e.2, fun s hs => hS s (List.mem_cons_of_mem _ hs)⟩
    · rw [if_neg h]
      simp
      rintro S e
      cases S with
      | nil => cases e
      | cons s S =>
        simp only [List.map_cons, List.cons.injEq] at e
        exact ⟨s, List.mem_cons_self, fun hs => h ⟨s, e.1, hs⟩⟩
def bv (R : List Nat) (S : List Sy) : PV := .tup [rv R, .tup (S.map syv)]
def okB (R : List Nat) (S : List Sy) : Prop := okR R ∧ S.length ≤ 400 ∧ ∀ s ∈ S, okSy R s
def IsB (p : PV) : Prop := ∃ R S, p = bv R S ∧ okB R S
def pairB : PV → Bool
  | .tup [_, _] => true
  | _ => false
theorem pair_spec (hp : dab 20 p = true) (q : Q (.bl (pairB p)) st) : wp (is_pair [p] st) Q := by
  refine wp_fn ?_
  simp
  cases p with
  | tup l =>
    match l with
    | [] => simp [wp_isTup hp, isTp]; exact Gc.same (by simp) q
    | [a] => simp [wp_isTup hp, isTp]; exact Gc.same (by simp) q
    | [a, b] => simp [wp_isTup hp, isTp]; exact Gc.same (by simp) q
    | a :: b :: c :: l =>
      simp [wp_isTup hp, isTp]
      refine Gc.same (by simp) ?_
      rw [decide_eq_false (by omega)]
      exact q
  | _ => first | (simp [dab] at hp; done) | (simp [wp_isTup hp, isTp]; exact Gc.same (by simp) q)
theorem roB_of (h : roB p = true) : ∃ R, p = rv R ∧ okR R := by
  cases p with
  | tup l =>
    simp [roB] at h
    obtain ⟨h1, h2⟩ := h
    have key : ∀ l : List PV, (∀ p ∈ l, nmB 5 p = true) → ∃ R : List Nat, l = R.map nv ∧ ∀ r ∈ R, r ≤ 4 := by
      intro l
      induction l with
      | nil => exact fun _ => ⟨[], rfl, by simp⟩
      | cons p l ih =>
        intro h
        obtain ⟨R, rfl, hR⟩ := ih fun q hq => h q (List.mem_cons_of_mem _ hq)
        have := h p List.mem_cons_self
        cases p <;> simp [nmB] at this
        rename_i i
        refine ⟨i.toNat :: R, ?_, ?_⟩
        · simp [nv]; omega
        · simp only [List.mem_cons, forall_eq_or_imp]
          exact ⟨by omega, hR⟩
    obtain ⟨R, rfl, hR⟩ := key l h2
    exact ⟨R, rfl, by simpa using h1, hR⟩
  | _ => simp [roB] at h
theorem rv_inj {R R' : List Nat} (h : rv R = rv R') : R = R' := by
  simp only [rv, PV.tup.injEq] at h
  exact (List.map_inj_right (fun a b h => by simp only [nv, PV.int.injEq] at h; omega)).mp h
open Classical in
theorem is_book_spec (hp : dab 20 p = true) (q : Q (.bl (decide (IsB p))) st) : wp (is_book [p] st) Q := by
  refine wp_fn ?_
  have no : ∀ b, b = false → (¬ IsB p) → Gc st (.bl b) st Q := fun b hb hn => by
    subst hb
    exact Gc.same (by simp) (by simpa [hn] using q)
  simp
  refine pair_spec hp ?_
  simp
  by_cases hpr : ∃ a b, p = .tup [a, b]
  · obtain ⟨a, b, rfl⟩ := hpr
    rw [cnd_pos (show pairB (.tup [a, b]) = true from rfl)]
    have ha : dab 20 a = true := dab_mono (n := 19) (by omega) (dab_one hp (by simp))
    have hb : dab 20 b = true := dab_mono (n := 19) (by omega) (dab_one hp (by simp))
    simp
    refine rooms_ok_spec ha ?_
    simp
    cases h : roB a with
    | false =>
      simp
      refine no _ rfl ?_
      rintro ⟨R, S, e, hh⟩
      simp [bv] at e
      rw [e.1, roB_rv hh.1] at h
      cases h
    | true =>
      obtain ⟨R, rfl, hR⟩ := roB_of h
      simp [wp_isTup hb]
      cases b with
      | tup l =>
        have hl : ∀ p ∈ l, dab 20 p = true := fun p hp' => dab_mono (n := 19) (by omega) (dab_one hb hp')
        simp [isTp]
        by_cases h1 : l.length ≤ 400
        · rw [cnd_pos (decide_eq_true (by omega))]
          refine first_wrong_spec hR hl ?_
          simp
          refine Gc.same (by simp) ?_
          have e : (fw R 0 l).isNone = decide (IsB (.tup [rv R, .tup l])) := by
            rw [Bool.eq_iff_iff, decide_eq_true_eq, Option.isNone_iff_eq_none, fw_none]
            constructor
            · rintro ⟨S, rfl, hS⟩
              exact ⟨R, S, rfl, hR, by simpa using h1, hS⟩
            · rintro ⟨R', S, e, hh⟩
              simp only [bv, PV.tup.injEq, List.cons.injEq, and_true] at e
              have := rv_inj e.1
              subst this
              exact ⟨S, e.2, hh.2.2⟩
          rw [e]
          exact q
        · rw [cnd_neg (decide_eq_false (by omega))]
          refine no _ rfl ?_
          rintro ⟨R', S, e, hh⟩
          simp only [bv, PV.tup.injEq, List.cons.injEq, and_true] at e
          have := hh.2.1
          rw [e.2] at h1
          simp at h1
          omega
      | _ => first | (simp [dab] at hb; done) | (simp [isTp]; exact no _ rfl (by rintro ⟨R', S, e, hh⟩; simp [bv] at e))
  · have : pairB p = false := by
      unfold pairB
      split
      · exact absurd ⟨_, _, rfl⟩ hpr
      · rfl
    rw [cnd_neg this]
    refine no _ rfl ?_
    rintro ⟨R, S, rfl, hh⟩
    exact hpr ⟨_, _, rfl⟩
/-- the first saying that does not hold -/
def fk (F : List Pl) : Nat → List Sy → Option Nat
  | _, [] => none
  | i, s :: r => if std F s.x s.y ∈ s.lot then fk F (i + 1) r else some i
theorem fk_none : ∀ {S : List Sy} {i : Nat}, fk F i S = none ↔ ∀ s ∈ S, std F s.x s.y ∈ s.lot
  | [], i => by simp [fk]
  | s :: S, i => by
    unfold fk
    by_cases h : std F s.x s.y ∈ s.lot
    · rw [if_pos h, fk_none (S := S)]
      simp [h]
    · rw [if_neg h]
      simp [h]
theorem first_broken_spec {S : List Sy} (hB : okB R S) (hF : okF R F) (hn : noR F) (q : Q (ov (fk F 0 S)) st) : wp (first_broken [bv R S, fv F] st) Q := by
  refine wp_fn ?_
  simp [bv]
  refine wps_forLo (fun m σ st' => ∃ i r, m = DN.numbered i (r.map syv) ∧ σ = [some (bv R S), some (fv F), none, none, none, none] ∧ st = st' ∧ (∀ p ∈ r, p ∈ S) ∧ fk F 0 S = fk F i r) _ ?_ ?_ ⟨0, S, rfl, rfl, rfl, fun _ h => h, rfl⟩
  · rintro I hI p m σ st' ⟨i, r, e, rfl, rfl, hm, e2⟩
    cases r with
    | nil => cases e
    | cons s r =>
      simp only [List.map_cons, DN.numbered, List.cons.injEq] at e
      obtain ⟨rfl, rfl⟩ := e
      have hs := hB.2.2 s (hm s List.mem_cons_self)
      simp [syv]
      refine standing_in_spec hF.wf hn (by rw [hF.1]; exact hs.1) (by rw [hF.1]; exact hs.2.1) ?_
      rw [wp_notInSvT]
      simp
      by_cases h : std F s.x s.y ∈ s.lot
      · rw [cnd_pos (decide_eq_true h)]
        simp [wipeA]
        exact hI _ _ _ ⟨_, _, rfl, rfl, rfl, fun p hp => hm p (List.mem_cons_of_mem _ hp), by rw [e2]; simp [fk, h]⟩
      · rw [cnd_neg (decide_eq_false h)]
        exact Gc.same (by simp) (by simpa [e2, fk, h, ov] using q)
  · rintro σ st' ⟨i, r, e, rfl, rfl, hm, e2⟩
    cases r with
    | nil =>
      try simp [wipeA]
      exact Gc.same (by simp) (by simpa [e2, fk, ov] using q)
    | cons a r => cases e
/-- the book is kept by the forest -/
def Keeps (b f : PV) : Prop := ∃ R S F, b = bv R S ∧ f = fv F ∧ okB R S ∧ okF R F ∧ noR F ∧ ∀ s ∈ S, std F s.x s.y ∈ s.lot
open Classical in
theorem keeps_spec {b : PV} (hb : dab 20 b = true) (hf : dab 20 f = true) (q : Q (.bl (decide (Keeps b f))) st) : wp (keeps [b, f] st) Q := by
  refine wp_fn ?_
  have no : ∀ c, c = false → (¬ Keeps b f) → Gc st (.bl c) st Q := fun c hb hn => by
    subst hb
    exact Gc.same (by simp) (by simpa [hn] using q)
  simp
  refine is_book_spec hb ?_
  simp
  by_cases h : IsB b
  · rw [cnd_pos (decide_eq_true h)]
    obtain ⟨R, S, rfl, hB⟩ := h
    simp [bv]
    refine forest_spec hB.1 hf ?_
    simp
    by_cases h2 : IsF R f
    · rw [cnd_pos (decide_eq_true h2)]
      obtain ⟨F, rfl, hF, hn⟩ := h2
      refine first_broken_spec hB hF hn ?_
      simp
      refine Gc.same (by simp) ?_
      have e : (fk F 0 S).isNone = decide (Keeps (bv R S) (fv F)) := by
        rw [Bool.eq_iff_iff, decide_eq_true_eq, Option.isNone_iff_eq_none, fk_none]
        constructor
        · exact fun z => ⟨R, S, F, rfl, rfl, hB, hF, hn, z⟩
        · rintro ⟨R', S', F', e1, e2, h1, h2, h3, h4⟩
          cases fv_inj e2
          simp only [bv, PV.tup.injEq, List.cons.injEq, and_true] at e1
          have e3 : S = S' := (List.map_inj_right (fun a b h => by
            simp only [syv, PV.tup.injEq, List.cons.injEq, and_true, PV.int.injEq] at h
            obtain ⟨a1, a2, a3⟩ := h
            have a3 := (List.map_inj_right (fun _ _ => sv_inj)).mp a3
            obtain ⟨ax, ay, al⟩ := a
            obtain ⟨bx, bY, bl⟩ := b
            simp only at a1 a2 a3
            have a1 : ax = bx := by omega
            have a2 : ay = bY := by omega
            rw [a1, a2, a3])).mp e1.2
          subst e3
          exact h4
      rw [e]
      exact q
    · rw [cnd_neg (decide_eq_false h2)]
      refine no _ rfl ?_
      rintro ⟨R', S', F', e1, e2, h1, h2', h3, h4⟩
      simp only [bv, PV.tup.injEq, List.cons.injEq, and_true] at e1
      have := rv_inj e1.1
      subst this
      exact h2 ⟨F', e2, h2', h3⟩
  · rw [cnd_neg (decide_eq_false h)]
    refine no _ rfl ?_
    rintro ⟨R', S', F', e1, e2, h1, h2', h3, h4⟩
    exact h ⟨R', S', e1, h1⟩
end
end Lib
set_option Elab.async false
set_option linter.all false
set_option maxRecDepth 100000
set_option maxHeartbeats 2000000
/-! LibT: the law's own table. -/
namespace Lib
open PySem PySem.Spec PyProof.Rows L2 DN
section
variable {Q : PV → Store → Prop} {st : Store} {F : List Pl} {R : List Nat} {x y : Nat} {p f : PV}
def turn : Sd → Sd
  | .ap => .ap
  | .inn r => .aro r
  | .aro r => .inn r
theorem turn_turn {s : Sd} : turn (turn s) = s := by cases s <;> rfl
theorem noX_ok {α : Type} {a : α} {st : Store} : noX (.ok a st : Res α) = .ok a st := rfl
theorem wp_disp3 {a b c : Str} {v1 v2 v3 : PV} {σ : AE} (hab : a ≠ b) (hac : a ≠ c) (hbc : b ≠ c) : wp (dDisp mDk [(dC (.str a), dC v1), (dC (.str b), dC v2), (dC (.str c), dC v3)] σ st) Q = Q (.dK [.inr a, .inr b, .inr c] [v1, v2, v3]) st := by
  simp [dDisp, dPairs, dC, noX_ok, Res.bind, mDk, kPairs, kOf, mergeA, putA, hab, hac, hbc]
theorem ne1 : (Str.ofString "in") ≠ Str.ofString "around" := by decide +kernel
theorem ne2 : (Str.ofString "in") ≠ Str.ofString "apart" := by decide +kernel
theorem ne3 : (Str.ofString "around") ≠ Str.ofString "apart" := by decide +kernel
theorem wp_ixK {ks : List Key} {vs : List PV} {z : Str} {v : PV} (h : look (ks.zip vs) (.inr z) = some v) : wp (pIx (.dK ks vs) (.str z) st) Q = Q v st := by
  simp [pIx, dGet, kOf, h]
theorem turned_spec {s : Sd} (q : Q (sv (turn s)) st) : wp (_law_turned [sv s] st) Q := by
  refine wp_fn ?_
  cases s with
  | ap =>
    simp [sv, wp_disp3 ne1 ne2 ne3]
    rw [wp_ixK (v := .str ("apart" : Str)) (by simp [look, ne1, ne2, ne3])]
    exact Gc.same (by simp) q
  | inn r =>
    simp [sv, wp_disp3 ne1 ne2 ne3]
    rw [wp_ixK (v := .str ("around" : Str)) (by simp [look, ne1, ne2, ne3])]
    exact Gc.same (by simp) q
  | aro r =>
    simp [sv, wp_disp3 ne1 ne2 ne3]
    rw [wp_ixK (v := .str ("in" : Str)) (by simp [look, ne1, ne2, ne3])]
    exact Gc.same (by simp) q
/-- the standings of a and b that these sayings let -/
def tbl (R : List Nat) (S : List Sy) (a b : Nat) : List Sd := (allS R a b).filter fun s => S.all fun z => (!(decide (z.x = a) && decide (z.y = b)) || decide (s ∈ z.lot)) && (!(decide (z.x = b) && decide (z.y = a)) || decide (turn s ∈ z.lot))
theorem tbl_nil {a b : Nat} : tbl R [] a b = allS R a b := by
  unfold tbl
  rw [List.filter_eq_self]
  simp
theorem tbl_snoc {S : List Sy} {z : Sy} {a b : Nat} : tbl R (S ++ [z]) a b = (tbl R S a b).filter fun s => (!(decide (z.x = a) && decide (z.y = b)) || decide (s ∈ z.lot)) && (!(decide (z.x = b) && decide (z.y = a)) || decide (turn s ∈ z.lot)) := by
  unfold tbl
  rw [List.filter_filter]
  congr 1
  funext s
  rw [List.all_append]
  simp [Bool.and_comm]
/-- the dict holds for each two of n things what t says -/
def Tb (es : List (List Key × PV)) (n : Nat) (t : Nat → Nat → List Sd) : Prop := ∀ a b : Nat, a < n → b < n → a ≠ b → look es [.inl a, .inl b] = some (.lst ((t a b).map sv))
def Cln (es : List (List Key × PV)) : Prop := ∀ e ∈ es, cl e.2 = true
theorem cl_svs {L : List Sd} : cls (L.map sv) = true := cls_iff.mpr fun p hp => by
  obtain ⟨s, _, rfl⟩ := List.mem_map.mp hp
  exact cl_sv
theorem Cln.put {es : List (List Key × PV)} {k : List Key} {L : List Sd} (h : Cln es) : Cln (putA es k (.lst (L.map sv))) := putA_vals (p := fun v => cl v = true) h (by simpa using cl_svs)
theorem key_inj {a b c d : Nat} : ([.inl (a : Int), .inl (b : Int)] : List Key) = [.inl (c : Int), .inl (d : Int)] ↔ a = c ∧ b = d := by
  simp
  omega
theorem allS_len (hR : okR R) : (allS R x y).length ≤ 9 := by
  have h1 := rm_le (x := x) hR
  have h2 := rm_le (x := y) hR
  simp [allS]
  omega
theorem tbl_len (hR : okR R) {S : List Sy} : (tbl R S x y).length ≤ 9 := Nat.le_trans (List.length_filter_le _ _) (allS_len hR)
theorem fill_len {S : List Sd} {f : Sd → Bool} {n : Nat} (h : S.length ≤ n) : (S.filter f).length ≤ n := Nat.le_trans (List.length_filter_le _ _) h
theorem table_spec {S : List Sy} {w : PV} (hw : w = .lst (S.map syv)) (hR : okR R) (hl : S.length ≤ 1000) (hS : ∀ s ∈ S, okSy R s) (q : ∀ es, Tb es R.length (tbl R S) → Cln es → Q (fzT es) st) : wp (_law_table [rv R, w] st) Q := by
  subst hw
  have h24 := hR.1
  refine wp_fn ?_
  simp [dNewT, rv, rgN (show R.length ≤ 1000 by omega)]
  refine wps_forRo (fun i σ st' => ∃ (k : Nat) (es : List (List Key × PV)), i = (k : Int) ∧ k ≤ R.length ∧ σ = [some (rv R), some (.lst (S.map syv)), some (.ref st.length), none, none, none, none, none] ∧ st' = st ++ [.dT es] ∧ Cln es ∧ es.length ≤ 24 * k ∧ ∀ a b : Nat, a < k → b < R.length → a ≠ b → look es [.inl a, .inl b] = some (.lst ((allS R a b).map sv))) ?_ ?_ ?_
  · rintro I hI i σ st' ⟨k, es, rfl, hk, rfl, rfl, hc, hz, hT⟩ hi
    simp [rv, rgN (show R.length ≤ 1000 by omega)]
    refine wps_forRo (fun i σ st' => ∃ (j : Nat) (es : List (List Key × PV)), i = (j : Int) ∧ j ≤ R.length ∧ σ = [some (rv R), some (.lst (S.map syv)), some (.ref st.length), some (.int k), none, none, none, none] ∧ st' = st ++ [.dT es] ∧ Cln es ∧ es.length ≤ 24 * k + j ∧ (∀ a b : Nat, a < k → b < R.length → a ≠ b → look es [.inl a, .inl b] = some (.lst ((allS R a b).map sv))) ∧ ∀ b : Nat, b < j → k ≠ b → look es [.inl k, .inl b] = some (.lst ((allS R k b).map sv))) ?_ ?_ ?_
    · rintro J hJ i σ st' ⟨j, es, rfl, hj, rfl, rfl, hc, hz, hT, hT2⟩ hi
      simp
      by_cases hkj : k = j
      · subst hkj
        simp [wipeA]
        refine hJ _ _ _ ⟨k + 1, es, by omega, by omega, rfl, rfl, hc, by omega, hT, fun b hb hn => hT2 b (by omega) hn⟩
      · rw [cnd_neg (decide_eq_false (by omega))]
        refine every_spec hR (by omega) (by omega) ?_
        try simp
        refine wp_setT2 (es := es) (by simp) (by simp only [SZ_lit]; omega) ?_
        simp [wipeA]
        refine hJ _ _ _ ⟨j + 1, _, by omega, by omega, rfl, rfl, hc.put, by have := putA_len (es := es) (k := [.inl (k : Int), .inl (j : Int)]) (v := .lst ((allS R k j).map sv)); omega, fun a b ha hb hn => ?_, fun b hb hn => ?_⟩
        · rw [look_putA, if_neg (by rw [key_inj]; omega)]
          exact hT a b ha hb hn
        · rw [look_putA]
          by_cases e : j = b
          · subst e
            rw [if_pos rfl]
          · rw [if_neg (by rw [key_inj]; omega)]
            exact hT2 b (by omega) hn
    · rintro i σ st' ⟨j, es, rfl, hj, rfl, rfl, hc, hz, hT, hT2⟩ hi
      simp [wipeA]
      refine hI _ _ _ ⟨k + 1, es, by omega, by omega, rfl, rfl, hc, by omega, fun a b ha hb hn => ?_⟩
      by_cases e : a = k
      · subst e
        exact hT2 b (by omega) hn
      · exact hT a b (by omega) hb hn
    · exact ⟨0, es, rfl, by omega, rfl, rfl, hc, by omega, hT, fun b hb => by omega⟩
  · rintro i σ st' ⟨k, es, rfl, hk, rfl, rfl, hc, hz, hT⟩ hi
    simp [wipeA]
    refine wps_forM (fun r σ st' => ∃ (es : List (List Key × PV)) (D : List Sy), σ = [some (rv R), some (.lst (S.map syv)), some (.ref st.length), none, none, none, none, none] ∧ st' = st ++ [.dT es] ∧ S = D ++ r ∧ Cln es ∧ es.length ≤ 576 + 2 * D.length ∧ Tb es R.length (tbl R D)) _ ?_ ?_ ⟨es, [], rfl, rfl, rfl, hc, by simp; omega, fun a b ha hb hn => ?_⟩
    · rintro I hI z r σ st' ⟨es, D, rfl, rfl, e, hc, hz, hT⟩
      have hD : D.length + 1 + r.length = S.length := by rw [e]; simp; omega
      obtain ⟨hx, hy, hxy, hs⟩ := hS z (by rw [e]; simp)
      have hzl : z.lot.length ≤ 9 := Nat.le_trans hs.length_le (allS_len hR)
      simp [syv]
      refine wp_lcA (fun s => sv (turn s)) _ (fun s _ => by simp [wipeA]; exact turned_spec ⟨rfl, rfl⟩) ?_
      have e1 : z.lot.map (fun s => sv (turn s)) = (z.lot.map turn).map sv := by simp
      rw [e1]
      have hM1 : (z.lot.map turn).length ≤ 9 := by simpa using hzl
      have hM2 : ∀ s, s ∈ z.lot.map turn ↔ turn s ∈ z.lot := fun s => by
        rw [List.mem_map]
        exact ⟨fun ⟨u, h, e⟩ => by rw [← e, turn_turn]; exact h, fun h => ⟨_, h, turn_turn⟩⟩
      generalize z.lot.map turn = M at hM1 hM2
      simp
      refine ⟨by omega, ?_⟩
      refine wp_ixR2 (es := es) (by simp) (hT _ _ hx hy hxy) ?_
      simp
      refine wp_lcF (fun s => decide (s ∈ z.lot)) sv _ (fun s _ => by simp [wipeA, wp_inSvT]) ?_
      have l1 := fill_len (f := fun s => decide (s ∈ z.lot)) (tbl_len (x := z.x) (y := z.y) hR (S := D))
      simp
      refine ⟨by omega, ?_⟩
      refine wp_setT2 (es := es) (by simp) (by simp only [SZ_lit]; omega) ?_
      simp
      have p1 := putA_len (es := es) (k := [.inl (z.x : Int), .inl (z.y : Int)]) (v := .lst (((tbl R D z.x z.y).filter fun s => decide (s ∈ z.lot)).map sv))
      have c1 := hc.put (k := [.inl (z.x : Int), .inl (z.y : Int)]) (L := (tbl R D z.x z.y).filter fun s => decide (s ∈ z.lot))
      have t1 : ∀ a b : Nat, a < R.length → b < R.length → a ≠ b → look (putA es [.inl (z.x : Int), .inl (z.y : Int)] (.lst (((tbl R D z.x z.y).filter fun s => decide (s ∈ z.lot)).map sv))) [.inl a, .inl b] = some (.lst ((if z.x = a ∧ z.y = b then (tbl R D a b).filter (fun s => decide (s ∈ z.lot)) else tbl R D a b).map sv)) := fun a b ha hb hn => by
        rw [look_putA]
        by_cases h : z.x = a ∧ z.y = b
        · rw [if_pos (key_inj.mpr h), if_pos h]
          rw [h.1, h.2]
        · rw [if_neg (fun h' => h (key_inj.mp h')), if_neg h]
          exact hT a b ha hb hn
      generalize putA es [.inl (z.x : Int), .inl (z.y : Int)] (.lst (((tbl R D z.x z.y).filter fun s => decide (s ∈ z.lot)).map sv)) = es1 at p1 c1 t1
      refine wp_ixR2 (es := es1) (by simp) (t1 _ _ hy hx (Ne.symm hxy)) ?_
      rw [if_neg (by omega)]
      simp
      refine wp_lcF (fun s => decide (s ∈ M)) sv _ (fun s _ => by simp [wipeA, wp_inSvL]) ?_
      have l2 := fill_len (f := fun s => decide (s ∈ M)) (tbl_len (x := z.y) (y := z.x) hR (S := D))
      simp
      refine ⟨by omega, ?_⟩
      refine wp_setT2 (es := es1) (by simp) (by simp only [SZ_lit]; omega) ?_
      have p2 := putA_len (es := es1) (k := [.inl (z.y : Int), .inl (z.x : Int)]) (v := .lst (((tbl R D z.y z.x).filter fun s => decide (s ∈ M)).map sv))
      have c2 := c1.put (k := [.inl (z.y : Int), .inl (z.x : Int)]) (L := (tbl R D z.y z.x).filter fun s => decide (s ∈ M))
      simp [wipeA]
      refine hI _ _ _ ⟨_, D ++ [z], rfl, rfl, by simp [e], c2, by simp; omega, fun a b ha hb hn => ?_⟩
      rw [look_putA, tbl_snoc]
      by_cases h : z.x = a ∧ z.y = b
      · obtain ⟨rfl, rfl⟩ := h
        rw [if_neg (by rw [key_inj]; omega), t1 _ _ ha hb hn, if_pos ⟨rfl, rfl⟩]
        congr 4
        funext s
        have : ¬ (z.x = z.y ∧ z.y = z.x) := by omega
        simp
        omega
      · by_cases h2 : z.x = b ∧ z.y = a
        · obtain ⟨rfl, rfl⟩ := h2
          rw [if_pos rfl]
          congr 4
          funext s
          simp [hM2]
          omega
        · rw [if_neg (by rw [key_inj]; omega), t1 _ _ ha hb hn, if_neg h]
          congr 3
          symm
          rw [List.filter_eq_self]
          intro s _
          have h1' : (decide (z.x = a) && decide (z.y = b)) = false := by simpa using h
          have h2' : (decide (z.x = b) && decide (z.y = a)) = false := by simpa using h2
          rw [h1', h2']
          rfl
    · rintro σ st' ⟨es, D, rfl, rfl, e, hc, hz, hT⟩
      simp [wipeA]
      have : S = D := by simpa using e
      subst this
      exact Gc.dT (s := st.length) (n := st.length) (x := st) (es := es) (junk := [.dT es]) (cls_iff.mpr fun p hp => by obtain ⟨e, he, rfl⟩ := List.mem_map.mp hp; exact hc e he) .refl rfl (Nat.le_refl _) (by simp) (q es hT hc)
    · rw [tbl_nil]
      exact hT a b (by omega) hb hn
  · exact ⟨0, [], rfl, by omega, rfl, rfl, (fun e he => by cases he), by simp, fun a b ha => by omega⟩
end
end Lib
set_option Elab.async false
set_option linter.all false
set_option maxRecDepth 100000
set_option maxHeartbeats 2000000
/-! LibU: the law's own parts, rooms over them, free things, solver. -/
namespace Lib
open PySem PySem.Spec PyProof.Rows L2 DN
section
variable {Q : PV → Store → Prop} {st : Store} {F : List Pl} {R : List Nat} {x y n : Nat} {p f : PV} {t : Nat → Nat → List Sd} {es : List (List Key × PV)}
/-! kept -/
theorem kept_spec (hw : Wf F) (hz : F.length ≤ 1000) (hT : Tb es F.length t) (q : Q (.bl (decide (∀ x, x < F.length → ∀ y, y < x → std F x y ∈ t x y))) st) : wp (_law_kept [fzT es, fv F] st) Q := by
  refine wp_fn ?_
  simp [fv, rgN hz]
  have no : (¬ ∀ x, x < F.length → ∀ y, y < x → std F x y ∈ t x y) → Gc st (.bl false) st Q := fun hn => Gc.same (by simp) (by simpa [hn] using q)
  refine wps_forRo (fun i σ st' => ∃ k : Nat, i = (k : Int) ∧ k ≤ F.length ∧ σ = [some (fzT es), some (fv F), none, none] ∧ st = st' ∧ ∀ x, x < k → ∀ y, y < x → std F x y ∈ t x y) ?_ ?_ ?_
  · rintro I hI i σ st' ⟨k, rfl, hk, rfl, rfl, e⟩ hi
    simp [rgN (show k ≤ 1000 by omega)]
    refine wps_forRo (fun i σ st' => ∃ j : Nat, i = (j : Int) ∧ j ≤ k ∧ σ = [some (fzT es), some (fv F), some (.int k), none] ∧ st = st' ∧ ∀ y, y < j → std F k y ∈ t k y) ?_ ?_ ?_
    · rintro J hJ i σ st' ⟨j, rfl, hj, rfl, rfl, e2⟩ hi
      simp
      refine standing_spec hw (by omega) (by omega) hz ?_
      try simp
      refine wp_ixT2 (hT k j (by omega) (by omega) (by omega)) ?_
      rw [wp_notInSvL]
      simp
      by_cases h : std F k j ∈ t k j
      · rw [cnd_pos (decide_eq_true h)]
        simp [wipeA]
        refine hJ _ _ _ ⟨j + 1, by omega, by omega, rfl, rfl, fun y hy => ?_⟩
        by_cases e3 : y = j
        · subst e3; exact h
        · exact e2 y (by omega)
      · rw [cnd_neg (decide_eq_false h)]
        exact no fun z => h (z k (by omega) j (by omega))
    · rintro i σ st' ⟨j, rfl, hj, rfl, rfl, e2⟩ hi
      simp [wipeA]
      refine hI _ _ _ ⟨k + 1, by omega, by omega, rfl, rfl, fun x hx y hy => ?_⟩
      by_cases e3 : x = k
      · subst e3; exact e2 y (by omega)
      · exact e x (by omega) y hy
    · exact ⟨0, rfl, by omega, rfl, rfl, fun y hy => by omega⟩
  · rintro i σ st' ⟨k, rfl, hk, rfl, rfl, e⟩ hi
    try simp [wipeA]
    refine Gc.same (by simp) ?_
    have : ∀ x, x < F.length → ∀ y, y < x → std F x y ∈ t x y := fun x hx => e x (by omega)
    rw [decide_eq_true this] at q
    exact q
  · exact ⟨0, rfl, by omega, rfl, rfl, fun y hy => by omega⟩
/-! sorting -/
def insN (i : Nat) : List Nat → List Nat
  | [] => [i]
  | j :: r => if i ≤ j then i :: j :: r else j :: insN i r
def srt : List Nat → List Nat
  | [] => []
  | i :: r => insN i (srt r)
def ci (k : Nat) : Int := k
theorem ins_map {i : Nat} : ∀ {l : List Nat}, DN.ins (ci i) (l.map ci) = (insN i l).map ci
  | [] => rfl
  | j :: r => by
    simp only [List.map_cons, DN.ins, insN]
    by_cases h : i ≤ j
    · rw [if_pos (by unfold ci; omega), if_pos h]; simp
    · rw [if_neg (by unfold ci; omega), if_neg h, ins_map]; simp
theorem isort_map : ∀ {l : List Nat}, DN.isort (l.map ci) = (srt l).map ci
  | [] => rfl
  | i :: r => by simp only [List.map_cons, DN.isort, srt, isort_map, ins_map]
theorem insN_perm (i : Nat) : ∀ l : List Nat, (insN i l).Perm (i :: l)
  | [] => List.Perm.refl _
  | j :: r => by
    unfold insN
    split
    · exact List.Perm.refl _
    · exact ((insN_perm i r).cons j).trans (List.Perm.swap i j r)
theorem srt_perm : ∀ l : List Nat, (srt l).Perm l
  | [] => List.Perm.refl _
  | i :: r => (insN_perm i (srt r)).trans ((srt_perm r).cons i)
theorem wp_srtN {l : List Nat} : wp (qSrtI [.lst (l.map nv)] st) Q = Q (.lst ((srt l).map nv)) st := by
  have e : ∀ l : List Nat, l.map nv = (l.map ci).map PV.int := fun l => by simp [Function.comp_def]; intro a _; rfl
  rw [e, wp_srtL, isort_map, e]
/-! parts -/
def lk (t : Nat → Nat → List Sd) (a b : Nat) : Bool := !decide (.ap ∈ t a b)
def grow (t : Nat → Nat → List Sd) : Nat → List Nat → List Nat → Nat → List Nat × List Nat
  | 0, left, part, _ => (left, part)
  | k + 1, left, part, a => match part[a]? with
    | some u => grow t k (left.filter fun y => !lk t u y) (part ++ left.filter fun y => lk t u y) (a + 1)
    | none => (left, part)
def prt (t : Nat → Nat → List Sd) : Nat → List Nat → List (List Nat)
  | 0, _ => []
  | _ + 1, [] => []
  | k + 1, a :: l => srt (grow t (l.length + 1) l [a] 0).2 :: prt t k (grow t (l.length + 1) l [a] 0).1
/-- the parts of a lot that hang together -/
def pt (t : Nat → Nat → List Sd) (L : List Nat) : List (List Nat) := prt t L.length (srt L)
def tv (P : List Nat) : PV := .tup (P.map nv)
theorem split_perm {l : List Nat} {g : Nat → Bool} : (l.filter (fun y => !g y) ++ l.filter g).Perm l := by
  induction l with
  | nil => simp
  | cons a l ih =>
    cases h : g a with
    | true =>
      simp only [List.filter_cons, h, Bool.not_true, if_false, if_true, Bool.false_eq_true]
      exact List.perm_middle.trans (ih.cons a)
    | false =>
      simp only [List.filter_cons, h, Bool.not_false, if_false, if_true, Bool.false_eq_true]
      exact ih.cons a
theorem grow_perm : ∀ (k : Nat) (left part : List Nat) (a : Nat), ((grow t k left part a).1 ++ (grow t k left part a).2).Perm (left ++ part)
  | 0, left, part, a => List.Perm.refl _
  | k + 1, left, part, a => by
    unfold grow
    split
    · rename_i u _
      refine (grow_perm k _ _ _).trans ?_
      have h1 : (left.filter (fun y => !lk t u y) ++ (part ++ left.filter fun y => lk t u y)).Perm (left.filter (fun y => !lk t u y) ++ (left.filter (fun y => lk t u y) ++ part)) := List.perm_append_comm.append_left _
      refine h1.trans ?_
      rw [← List.append_assoc]
      exact (split_perm (g := fun y => lk t u y)).append_right part
    · exact List.Perm.refl _
theorem grow_sub : ∀ (k : Nat) (left part : List Nat) (a : Nat), ∃ m, (grow t k left part a).2 = part ++ m
  | 0, left, part, a => ⟨[], by simp [grow]⟩
  | k + 1, left, part, a => by
    unfold grow
    split
    · rename_i u _
      obtain ⟨m, e⟩ := grow_sub k (left.filter fun y => !lk t u y) (part ++ left.filter fun y => lk t u y) (a + 1)
      exact ⟨_, by rw [e, List.append_assoc]⟩
    · exact ⟨[], by simp⟩
theorem grow_len (k : Nat) (left part : List Nat) (a : Nat) : (grow t k left part a).1.length ≤ left.length := by
  have h := (grow_perm (t := t) k left part a).length_eq
  obtain ⟨m, e⟩ := grow_sub (t := t) k left part a
  rw [e] at h
  simp at h
  omega
theorem prt_perm : ∀ (k : Nat) (l : List Nat), l.length ≤ k → ((prt t k l).flatten).Perm l
  | 0, l, h => by
    have : l = [] := List.length_eq_zero_iff.mp (by omega)
    subst this
    simp [prt]
  | k + 1, [], _ => by simp [prt]
  | k + 1, a :: l, h => by
    simp only [prt, List.flatten_cons]
    have h1 := grow_len (t := t) (l.length + 1) l [a] 0
    have h2 := prt_perm k (grow t (l.length + 1) l [a] 0).1 (by simp at h; omega)
    have h3 := grow_perm (t := t) (l.length + 1) l [a] 0
    refine ((srt_perm _).append h2).trans (List.perm_append_comm.trans (h3.trans ?_))
    exact List.perm_append_comm
theorem pt_perm {L : List Nat} : ((pt t L).flatten).Perm L := (prt_perm _ _ (by rw [(srt_perm L).length_eq]; exact Nat.le_refl _)).trans (srt_perm L)
theorem prt_pos : ∀ (k : Nat) (l : List Nat), ∀ P ∈ prt t k l, P ≠ []
  | 0, _, _, h => by simp [prt] at h
  | k + 1, [], _, h => by simp [prt] at h
  | k + 1, a :: l, P, h => by
    simp only [prt, List.mem_cons] at h
    rcases h with rfl | h
    · intro e
      obtain ⟨m, hm⟩ := grow_sub (t := t) (l.length + 1) l [a] 0
      have := (srt_perm (grow t (l.length + 1) l [a] 0).2).length_eq
      rw [e, hm] at this
      simp at this
    · exact prt_pos k _ P h
theorem all_sub {L : List Nat} {P : List Nat} (hP : P ∈ pt t L) : ∀ a ∈ P, a ∈ L := fun a ha => (pt_perm (t := t)).subset (List.mem_flatten.mpr ⟨P, hP, ha⟩)
theorem flat_nodup {l : List (List Nat)} (h : l.flatten.Nodup) {P : List Nat} (hP : P ∈ l) : P.Nodup := by
  induction l with
  | nil => cases hP
  | cons a l ih =>
    rw [List.flatten_cons, List.nodup_append] at h
    rcases List.mem_cons.mp hP with rfl | hP
    · exact h.1
    · exact ih h.2.1 hP
theorem pt_nodup {L P : List Nat} (hn : L.Nodup) (hP : P ∈ pt t L) : P.Nodup := flat_nodup ((pt_perm (t := t)).nodup_iff.mpr hn) hP
theorem prt_fuel : ∀ (k m : Nat) (l : List Nat), l.length ≤ k → l.length ≤ m → prt t k l = prt t m l
  | 0, m, l, h, _ => by
    have : l = [] := List.length_eq_zero_iff.mp (by omega)
    subst this
    cases m <;> rfl
  | k + 1, 0, l, _, h => by
    have : l = [] := List.length_eq_zero_iff.mp (by omega)
    subst this
    rfl
  | k + 1, m + 1, [], _, _ => rfl
  | k + 1, m + 1, a :: l, h, h' => by
    have h1 := grow_len (t := t) (l.length + 1) l [a] 0
    simp only [prt]
    rw [prt_fuel k m _ (by simp at h; omega) (by simp at h'; omega)]
end
end Lib
set_option Elab.async false
set_option linter.all false
set_option maxRecDepth 100000
set_option maxHeartbeats 2000000
/-! LibV: walks of the law's own parts. -/
namespace Lib
open PySem PySem.Spec PyProof.Rows L2 DN
section
variable {Q : PV → Store → Prop} {st : Store} {F : List Pl} {R : List Nat} {x y n : Nat} {p f : PV} {t : Nat → Nat → List Sd} {es : List (List Key × PV)}
theorem dab_nvs {L : List Nat} {m : Nat} : (L.map nv).all (dab m) = true := by
  rw [List.all_eq_true]
  intro p hp
  obtain ⟨a, _, rfl⟩ := List.mem_map.mp hp
  cases m <;> simp [nv, dab]
theorem cls_nvs {L : List Nat} : cls (L.map nv) = true := cls_iff.mpr fun p hp => by
  obtain ⟨a, _, rfl⟩ := List.mem_map.mp hp
  simp [nv]
theorem wp_notInN {L : List Nat} {a : Nat} : wp (pNotIn (nv a) (.lst (L.map nv)) st) Q = Q (.bl (!decide (a ∈ L))) st := by
  rw [wp_notInL (by simp [nv, dpv]) (by simp [nv, dpv])]
  congr 3
  rw [decide_eq_decide, List.mem_map]
  constructor
  · rintro ⟨b, hb, e⟩
    simp only [nv, PV.int.injEq] at e
    have : b = a := by omega
    exact this ▸ hb
  · exact fun h => ⟨a, h, rfl⟩
theorem atI_nv {L : List Nat} {i u : Nat} (h : L[i]? = some u) : atI (L.map nv) (i : Int) = some (nv u) := by
  have hl := (List.getElem?_eq_some_iff.mp h).1
  rw [atI_map hl, (List.getElem?_eq_some_iff.mp h).2]
theorem cut_tail {α : Type} {a : α} {l : List α} : cut (a :: l) (some 1) none = l := by
  simp [cut, HT.sIx]
theorem flat_len {l : List (List Nat)} (h : ∀ P ∈ l, P ≠ []) : l.length ≤ l.flatten.length := by
  induction l with
  | nil => simp
  | cons a l ih =>
    have h1 := ih fun P hP => h P (List.mem_cons_of_mem _ hP)
    have h2 : 0 < a.length := List.length_pos_iff.mpr (h a List.mem_cons_self)
    simp only [List.flatten_cons, List.length_append, List.length_cons]
    omega
theorem parts_spec {L : List Nat} {w : PV} (hw : w = .lst (L.map nv)) (hT : Tb es n t) (hn : n ≤ 1000) (hd : L.Nodup) (hL : ∀ a ∈ L, a < n) (q : Q (.lst ((pt t L).map tv)) st) : wp (_law_parts [fzT es, w] st) Q := by
  subst hw
  have hlen : L.length ≤ n := nodup_bound n L hd hL
  refine wp_fn ?_
  simp [wp_srtN]
  refine wps_whileO (fun k σ st' => ∃ (left : List Nat) (acc : List (List Nat)), σ = [some (fzT es), some (.lst (L.map nv)), some (.lst (left.map nv)), some (.ref st.length), none, none, none, none] ∧ st' = st ++ [.lst (acc.map tv)] ∧ left.length = k ∧ left.length ≤ n ∧ left.Nodup ∧ (∀ a ∈ left, a < n) ∧ acc ++ prt t left.length left = pt t L) ?_ L.length ?_
  · rintro I hI k σ st' ⟨left, acc, rfl, rfl, hk, hln, hnd, hlt, e⟩
    simp
    rw [wp_neNil dab_nvs]
    cases left with
    | nil =>
      simp
      simp [prt] at e
      subst e
      refine Gc.lstP (junk := [.lst ((pt t L).map tv)]) (n := st.length) (l := (pt t L).map tv) (cls_iff.mpr fun p hp => ?_) rfl (Nat.le_refl _) (by simp) q
      obtain ⟨P, _, rfl⟩ := List.mem_map.mp hp
      simpa [tv] using cls_nvs
    | cons a l =>
      simp
      have hl1 : l.length + 1 = k := by simpa using hk
      refine wps_whileO (fun m σ st' => ∃ (left part : List Nat) (i : Nat), σ = [some (fzT es), some (.lst (L.map nv)), some (.lst (left.map nv)), some (.ref st.length), some (.lst (part.map nv)), some (.int i), none, none] ∧ st' = st ++ [.lst (acc.map tv)] ∧ left.length + part.length = i + m ∧ left.length + part.length ≤ n ∧ (left ++ part).Nodup ∧ (∀ a ∈ left ++ part, a < n) ∧ grow t m left part i = grow t (l.length + 1) l [a] 0) ?_ (l.length + 1) ?_
      · rintro J hJ m σ st' ⟨left, part, i, rfl, rfl, hm, hm2, hnd2, hlt2, e2⟩
        simp
        by_cases hi : i < part.length
        · rw [cnd_pos (decide_eq_true (by omega))]
          obtain ⟨m, rfl⟩ : ∃ m', m = m' + 1 := ⟨m - 1, by omega⟩
          have hu : part[i]? = some part[i] := List.getElem?_eq_getElem hi
          have hup : part[i] ∈ part := List.getElem_mem hi
          generalize part[i] = u at hu hup
          have hun : u < n := hlt2 u (by simp [hup])
          refine wp_lcF (fun y => lk t u y) nv left (fun y hy => ?_) ?_
          · have hyu : u ≠ y := fun h => by
              subst h
              exact (List.nodup_append.mp hnd2).2.2 u hy u hup rfl
            simp [wipeA, atI_nv hu, nv]
            refine wp_ixT2 (hT u y hun (hlt2 y (by simp [hy])) hyu) ?_
            have := fun Q' => wp_notInSvL (Q := Q') (st := st ++ [.lst (acc.map tv)]) (s := .ap) (L := t u y)
            simp only [sv] at this
            rw [this]
            simp [lk]
          · have f1 : (left.filter fun y => lk t u y).length ≤ left.length := List.length_filter_le _ _
            simp
            refine ⟨by omega, ?_⟩
            refine wp_lcF (fun y => !lk t u y) nv left (fun y hy => ?_) ?_
            · simp [wipeA]
              rw [wp_notInN]
              simp [hy]

            · have f2 : (left.filter fun y => !lk t u y).length ≤ left.length := List.length_filter_le _ _
              have f3 := (split_perm (l := left) (g := fun y => lk t u y)).length_eq
              simp at f3
              simp
              refine ⟨by omega, by omega, ?_⟩
              simp [wipeA]
              have hp : ((left.filter fun y => !lk t u y) ++ (part ++ left.filter fun y => lk t u y)).Perm (left ++ part) := by
                have h1 : ((left.filter fun y => !lk t u y) ++ (part ++ left.filter fun y => lk t u y)).Perm ((left.filter fun y => !lk t u y) ++ ((left.filter fun y => lk t u y) ++ part)) := List.perm_append_comm.append_left _
                refine h1.trans ?_
                rw [← List.append_assoc]
                exact (split_perm (g := fun y => lk t u y)).append_right part
              have hpl := hp.length_eq
              simp only [List.length_append] at hpl
              refine ⟨m, by omega, hJ _ _ _ ⟨_, part ++ left.filter (fun y => lk t u y), i + 1, ?_, rfl, ?_, ?_, hp.nodup_iff.mpr hnd2, fun a ha => hlt2 a (hp.subset ha), ?_⟩⟩
              · simp
              · simp only [List.length_append]; omega
              · simp only [List.length_append]; omega
              · rw [← e2]
                conv => rhs; unfold grow
                rw [hu]
        · rw [cnd_neg (decide_eq_false (by omega))]
          refine ⟨isL_ref (l := acc.map tv) (by simp), ?_⟩
          rw [wp_srtN]
          simp
          have e3 : grow t m left part i = (left, part) := by
            cases m with
            | zero => rfl
            | succ m => unfold grow; rw [List.getElem?_eq_none (by omega)]
          rw [e3] at e2
          have hacc : acc.length ≤ 1000 := by
            have h1 : acc.length ≤ (pt t L).length := by rw [← e]; simp
            have h2 := flat_len (l := pt t L) (fun P hP => prt_pos _ _ P hP)
            rw [(pt_perm (t := t) (L := L)).length_eq] at h2
            omega
          refine wp_append (l := acc.map tv) (by simp) (by simp only [List.length_map, SZ_lit]; omega) ?_
          simp [wipeA]
          have hg := grow_len (t := t) (l.length + 1) l [a] 0
          rw [← e2] at hg
          simp only at hg
          refine ⟨left.length, by omega, hI _ _ _ ⟨left, acc ++ [srt part], rfl, by simp [tv], rfl, by omega, (List.nodup_append.mp hnd2).1, fun a ha => hlt2 a (by simp [ha]), ?_⟩⟩
          rw [← e]
          simp only [List.length_cons, prt, ← e2, List.append_assoc, List.singleton_append]
          have : prt t left.length left = prt t l.length left := prt_fuel left.length l.length left (by omega) (by omega)
          rw [this]
      · refine ⟨l, [a], 0, ?_, rfl, by simp, by simp; simp at hln; omega, ?_, ?_, rfl⟩
        · simp [cut_tail]
        · exact List.perm_append_comm.nodup_iff.mpr hnd
        · intro b hb
          exact hlt b (List.perm_append_comm.subset hb)
  · refine ⟨srt L, [], rfl, rfl, ?_, ?_, ?_, ?_, ?_⟩
    · exact (srt_perm L).length_eq
    · rw [(srt_perm L).length_eq]; exact hlen
    · exact (srt_perm L).nodup_iff.mpr hd
    · exact fun a ha => hL a ((srt_perm L).subset ha)
    · rw [(srt_perm L).length_eq]; rfl
end
end Lib
set_option Elab.async false
set_option linter.all false
set_option maxRecDepth 100000
set_option maxHeartbeats 2000000
/-! LibW: the law's own free things, its solver. -/
namespace Lib
open PySem PySem.Spec PyProof.Rows L2 DN
section
variable {Q : PV → Store → Prop} {st : Store} {F : List Pl} {R : List Nat} {x y n : Nat} {p f : PV} {t : Nat → Nat → List Sd} {es : List (List Key × PV)}
def les (L : List Nat) (x : Nat) : List Nat := L.filter fun y => !decide (y = x)
/-- a list or a tuple of these -/
def Sq (w : PV) (L : List Nat) : Prop := w = .lst (L.map nv) ∨ w = tv L
theorem Sq.src {w : PV} {L : List Nat} {QI : Src → Store → Prop} (h : Sq w L) : wp (srcOf w st) QI = QI (L.map nv, fun _ => true) st := by
  rcases h with rfl | rfl
  · simp
  · simp [tv]
theorem Sq.cl {w : PV} {L : List Nat} (h : Sq w L) : cl w = true := by
  rcases h with rfl | rfl
  · simpa using cls_nvs
  · simpa [tv] using cls_nvs
theorem less_spec {w : PV} {L : List Nat} (hw : Sq w L) (hz : L.length ≤ 1000) (q : Q (.lst ((les L x).map nv)) st) : wp (_law_less [w, .int x]  st) Q := by
  refine wp_fn ?_
  simp [hw.src]
  refine wp_lcF (fun y => !decide (y = x)) nv L (fun y hy => ?_) ?_
  · simp [wipeA, nv]
    have : ((y : Int) = x) ↔ y = x := by omega
    simp [this]
  · have := List.length_filter_le (fun y => !decide (y = x)) L
    simp
    refine ⟨by omega, Gc.same (by simpa using cls_nvs) ?_⟩
    simpa [les] using q
def ovr (R : List Nat) (t : Nat → Nat → List Sd) (x : Nat) (P : List Nat) : List Nat := (List.range (rm R x)).filter fun i => P.all fun y => decide (.aro i ∈ t x y)
theorem over_spec {P : List Nat} {w : PV} (hw : Sq w P) (hR : okR R) (hT : Tb es R.length t) (hx : x < R.length) (hz : P.length ≤ 1000) (hP : ∀ y ∈ P, y < R.length ∧ y ≠ x) (q : Q (.lst ((ovr R t x P).map nv)) st) : wp (_law_over [rv R, fzT es, .int x, w] st) Q := by
  have h4 := rm_le (x := x) hR
  refine wp_fn ?_
  simp [rv, atI_rv hx, rgN (show rm R x ≤ 1000 by omega)]
  rw [rgP_nat]
  refine wp_lcF (fun i => P.all fun y => decide (.aro i ∈ t x y)) nv _ (fun i hi => ?_) ?_
  · simp [wipeA, hw.src]
    refine wp_lcF (fun y => !decide (.aro i ∈ t x y)) nv P (fun y hy => ?_) ?_
    · simp [wipeA, nv]
      refine wp_ixT2 (hT x y hx (hP y hy).1 (Ne.symm (hP y hy).2)) ?_
      have := fun Q' => wp_notInSvL (Q := Q') (st := st) (s := .aro i) (L := t x y)
      simp only [sv] at this
      rw [this]
      simp
    · have := List.length_filter_le (fun y => !decide (.aro i ∈ t x y)) P
      simp
      refine ⟨by omega, ?_⟩
      rw [wp_eqNil dab_nvs]
      simp [nv]
      rw [Bool.eq_iff_iff]
      simp
  · have := List.length_filter_le (fun i => P.all fun y => decide (.aro i ∈ t x y)) (List.range (rm R x))
    simp at this
    simp
    refine ⟨by omega, Gc.same (by simpa using cls_nvs) ?_⟩
    simpa [ovr] using q
def freB (R : List Nat) (t : Nat → Nat → List Sd) (L : List Nat) (x : Nat) : Bool := (pt t (les L x)).all fun P => !(ovr R t x P).isEmpty
def fre (R : List Nat) (t : Nat → Nat → List Sd) (L : List Nat) : List Nat := L.filter (freB R t L)
theorem les_nodup {L : List Nat} (h : L.Nodup) : (les L x).Nodup := h.filter _
theorem les_mem {L : List Nat} {a : Nat} : a ∈ les L x ↔ a ∈ L ∧ a ≠ x := by simp [les]
theorem les_len {L : List Nat} (hd : L.Nodup) (hx : x ∈ L) : (les L x).length + 1 = L.length := by
  have e : les L x = L.erase x := by
    rw [hd.erase_eq_filter]
    unfold les
    congr 1
  rw [e, List.length_erase_of_mem hx]
  have := List.length_pos_of_mem hx
  omega
theorem pt_len {L : List Nat} : (pt t L).length ≤ L.length := by
  have h2 := flat_len (l := pt t L) (fun P hP => prt_pos _ _ P hP)
  rwa [(pt_perm (t := t) (L := L)).length_eq] at h2
theorem free_spec {L : List Nat} {w : PV} (hw : Sq w L) (hR : okR R) (hT : Tb es R.length t) (hd : L.Nodup) (hL : ∀ y ∈ L, y < R.length) (q : Q (.lst ((fre R t L).map nv)) st) : wp (_law_free [rv R, fzT es, w] st) Q := by
  have h24 := hR.1
  have hz := nodup_bound _ L hd hL
  refine wp_fn ?_
  simp [hw.src]
  refine wps_forM (fun r σ st' => ∃ acc : List Nat, σ = [some (rv R), some (fzT es), some w, some (.ref st.length), none, none] ∧ st' = st ++ [.lst (acc.map nv)] ∧ (∀ a ∈ r, a ∈ L) ∧ acc.length + r.length ≤ L.length ∧ acc ++ r.filter (freB R t L) = fre R t L) _ ?_ ?_ ⟨[], rfl, rfl, fun _ h => h, by simp, rfl⟩
  · rintro I hI a r σ st' ⟨acc, rfl, rfl, hm, hl, e⟩
    have ha := hm a List.mem_cons_self
    simp [nv]
    refine less_spec hw (by omega) ?_
    try simp
    have hlz : (les L a).length ≤ L.length := List.length_filter_le _ _
    refine parts_spec rfl hT (by omega) (les_nodup hd) (fun y hy => hL y (les_mem.mp hy).1) ?_
    simp
    refine wp_lcF (fun P => (ovr R t a P).isEmpty) tv _ (fun P hP => ?_) ?_
    · simp [wipeA]
      have hPl : P.length ≤ R.length := nodup_bound _ P (pt_nodup (les_nodup hd) hP) fun y hy => hL y (les_mem.mp (all_sub hP y hy)).1
      refine over_spec (.inr rfl) hR hT (hL a ha) (by omega) (fun y hy => ?_) ?_
      · have := les_mem.mp (all_sub hP y hy)
        exact ⟨hL y this.1, this.2⟩
      · rw [wp_eqNil dab_nvs]
        simp
    · have h1 := List.length_filter_le (fun P => (ovr R t a P).isEmpty) (pt t (les L a))
      have h2 := pt_len (t := t) (L := les L a)
      simp
      refine ⟨by omega, ?_⟩
      have h3 : (((pt t (les L a)).filter fun P => (ovr R t a P).isEmpty).map tv).all (dab 20) = true := by
        rw [List.all_eq_true]
        intro p hp
        obtain ⟨P, _, rfl⟩ := List.mem_map.mp hp
        simpa [tv, dab] using dab_nvs
      rw [wp_eqNil h3]
      have h4 : (((pt t (les L a)).filter fun P => (ovr R t a P).isEmpty).map tv).isEmpty = freB R t L a := by
        rw [Bool.eq_iff_iff]
        simp [freB]
      rw [h4]
      simp
      cases hf : freB R t L a with
      | true =>
        simp
        refine ⟨isL_ref (l := acc.map nv) (by simp), ?_⟩
        refine wp_append (l := acc.map nv) (by simp) (by simp only [List.length_map, SZ_lit]; simp at hl; omega) ?_
        simp [wipeA]
        refine hI _ _ _ ⟨acc ++ [a], rfl, by simp [nv], fun b hb => hm b (List.mem_cons_of_mem _ hb), by simp at hl ⊢; omega, ?_⟩
        rw [← e]
        simp [hf]
      | false =>
        simp [wipeA]
        refine hI _ _ _ ⟨acc, rfl, rfl, fun b hb => hm b (List.mem_cons_of_mem _ hb), by simp at hl ⊢; omega, ?_⟩
        rw [← e]
        simp [hf]
  · rintro σ st' ⟨acc, rfl, rfl, hm, hl, e⟩
    simp [wipeA]
    simp at e
    subst e
    exact Gc.lstP (junk := [.lst ((fre R t L).map nv)]) (n := st.length) (l := (fre R t L).map nv) cls_nvs rfl (Nat.le_refl _) (by simp) q
def wk (w : List Nat × Pl) : PV := .tup [tv w.1, pv w.2]
theorem dab_pv {q : Pl} {m : Nat} (h : 1 ≤ m) : dab m (pv q) = true := by
  obtain ⟨m, rfl⟩ : ∃ k, m = k + 1 := ⟨m - 1, by omega⟩
  cases q with
  | none => simp [pv, dab]
  | some g => cases m <;> simp [pv, pp, dab]
theorem dab_tv {L : List Nat} {m : Nat} (h : 1 ≤ m) : dab m (tv L) = true := by
  obtain ⟨m, rfl⟩ : ∃ k, m = k + 1 := ⟨m - 1, by omega⟩
  simpa [tv, dab] using dab_nvs
theorem dab_wks {W : List (List Nat × Pl)} : (W.map wk).all (dab 20) = true := by
  rw [List.all_eq_true]
  intro p hp
  obtain ⟨w, _, rfl⟩ := List.mem_map.mp hp
  simp [wk, dab, dab_tv, dab_pv]
theorem wp_neRef {l : List PV} {k : Nat} (hk : st[k]? = some (.lst l)) (h : l.all (dab 20) = true) : wp (pNe (.ref k) (.lst []) st) Q = Q (.bl (!l.isEmpty)) st := by
  have h1 := wp_neNil (Q := Q) (st := st) h
  have e : pNe (.ref k) (.lst []) st = pNe (.lst l) (.lst []) st := by
    have : toD (.ref k) st = toD (.lst l) st := by simp [toD, toD0, hk]
    simp only [pNe, pEqB, this]
  rw [e]
  exact h1
def wsz (W : List (List Nat × Pl)) : Nat := (W.map fun w => w.1.length).sum
theorem wsz_app {W V : List (List Nat × Pl)} : wsz (W ++ V) = wsz W + wsz V := by simp [wsz]
def okW (R : List Nat) (W : List (List Nat × Pl)) : Prop := ∀ w ∈ W, w.1 ≠ [] ∧ w.1.Nodup ∧ (∀ a ∈ w.1, a < R.length) ∧ ∀ h, w.2 = some h → h.1 < R.length
theorem okW_len {W : List (List Nat × Pl)} (h : okW R W) : W.length ≤ wsz W := by
  induction W with
  | nil => simp
  | cons w W ih =>
    have h1 := ih fun v hv => h v (List.mem_cons_of_mem _ hv)
    have h2 := List.length_pos_iff.mpr (h w List.mem_cons_self).1
    simp only [wsz, List.map_cons, List.sum_cons, List.length_cons] at h1 ⊢
    omega
theorem last_nv {G : List Nat} (h : G ≠ []) : ∃ u, u ∈ G ∧ atI (G.map nv) ((G.length : Int) - 1) = some (nv u) := by
  have hl := List.length_pos_iff.mpr h
  refine ⟨G[G.length - 1], List.getElem_mem _, ?_⟩
  have := atI_nv (L := G) (i := G.length - 1) (u := G[G.length - 1]) (List.getElem?_eq_getElem _)
  rwa [show ((G.length - 1 : Nat) : Int) = (G.length : Int) - 1 by omega] at this
theorem cls_pvs {F : List Pl} : cls (F.map pv) = true := cls_iff.mpr fun p hp => by
  obtain ⟨q, _, rfl⟩ := List.mem_map.mp hp
  cases q <;> simp [pv, pp]
/-- a part is barred, or forest-like places -/
theorem solved_spec (hR : okR R) (hT : Tb es R.length t) (q1 : ∀ L, Q (.tup [.non, tv L]) st) (q2 : ∀ F : List Pl, F.length = R.length → (∀ h, some h ∈ F → h.1 < R.length) → Q (.tup [fv F, .non]) st) : wp (_law_solved [rv R, fzT es] st) Q := by
  have h24 := hR.1
  have hng : (List.range R.length).Nodup := List.nodup_range
  refine wp_fn ?_
  simp [rv, rgN (show R.length ≤ 1000 by omega)]
  rw [rgP_nat]
  refine wp_lcA (fun _ => .non) _ (fun i hi => by simp [wipeA]) ?_
  simp [rgN (show R.length ≤ 1000 by omega)]
  refine ⟨by omega, ?_⟩
  refine wp_lcA nv _ (fun i hi => by simp [wipeA, nv]) ?_
  simp
  refine ⟨by omega, ?_⟩
  refine parts_spec rfl hT (by omega) hng (fun a ha => by simpa using ha) ?_
  obtain ⟨F0, hF0, hF0n, e0⟩ : ∃ F0 : List Pl, F0.length = R.length ∧ (∀ h, some h ∉ F0) ∧ (List.range R.length).map (fun _ => PV.non) = F0.map pv := by
    refine ⟨List.replicate R.length none, by simp, by simp, ?_⟩
    rw [List.map_const']
    simp [pv]
  rw [e0]
  have hpl := (pt_perm (t := t) (L := List.range R.length)).length_eq
  simp only [List.length_range] at hpl
  simp
  refine wps_forM (fun r σ st' => ∃ W : List (List Nat × Pl), σ = [some (rv R), some (fzT es), none, some (.ref st.length), some (.ref (st.length + 1)), none, none, none, none, none, none] ∧ st' = st ++ [.lst (F0.map pv), .lst (W.map wk)] ∧ okW R W ∧ (∀ P ∈ r, P ∈ pt t (List.range R.length)) ∧ wsz W + r.flatten.length ≤ R.length) _ ?_ ?_ ⟨[], rfl, by simp, by simp [okW], fun P hP => hP, by rw [show wsz [] = 0 from rfl]; omega⟩
  · rintro I hI P r σ st' ⟨W, rfl, rfl, hW, hm, hz⟩
    have hP := hm P List.mem_cons_self
    have hWl := okW_len hW
    simp at hz
    simp
    refine ⟨isL_ref (l := W.map wk) (by simp), ?_⟩
    refine wp_append (l := W.map wk) (by simp) (by simp only [List.length_map, SZ_lit]; omega) ?_
    simp [wipeA]
    refine hI _ _ _ ⟨W ++ [(P, none)], rfl, by simp [wk, pv], ?_, fun P' hP' => hm P' (List.mem_cons_of_mem _ hP'), ?_⟩
    · intro w hw
      rcases List.mem_append.mp hw with h | h
      · exact hW w h
      · simp at h
        subst h
        exact ⟨prt_pos _ _ P hP, pt_nodup hng hP, fun a ha => by simpa using all_sub hP a ha, fun h hh => by cases hh⟩
    · rw [wsz_app]
      simp only [wsz, List.map_cons, List.map_nil, List.sum_cons, List.sum_nil] at hz ⊢
      simp
      omega
  · rintro σ st' ⟨W, rfl, rfl, hW, hm, hz⟩
    simp [wipeA]
    refine wps_whileO (fun k σ st' => ∃ (W : List (List Nat × Pl)) (F : List Pl), σ = [some (rv R), some (fzT es), none, some (.ref st.length), some (.ref (st.length + 1)), none, none, none, none, none, none] ∧ st' = st ++ [.lst (F.map pv), .lst (W.map wk)] ∧ okW R W ∧ wsz W = k ∧ wsz W ≤ R.length ∧ F.length = R.length ∧ ∀ h, some h ∈ F → h.1 < R.length) ?_ (wsz W) ⟨W, F0, rfl, rfl, hW, rfl, by omega, hF0, fun h hh => absurd hh (hF0n h)⟩
    clear hW hm hz W
    rintro I hI k σ st' ⟨W, F, rfl, rfl, hW, hk, hz, hF, hFh⟩
    simp
    rw [wp_neRef (l := W.map wk) (by simp) dab_wks]
    rcases List.eq_nil_or_concat W with rfl | ⟨V, w, rfl⟩
    · simp
      rw [wp_tupR (l := F.map pv) (by simp)]
      exact Gc.pure (junk := [.lst (F.map pv), .lst []]) (by simp [cls_pvs]) rfl (q2 F hF hFh)
    · have hw := hW w (by simp)
      have hV : okW R V := fun v hv => hW v (by simp [hv])
      rw [List.concat_eq_append] at *
      rw [wsz_app] at hk hz
      have e1 : wsz [w] = w.1.length := by simp [wsz]
      rw [e1] at hk hz
      rw [show ((V ++ [w]).map wk).isEmpty = false by simp]
      simp
      refine ⟨isL_ref (l := (V ++ [w]).map wk) (by simp), ?_⟩
      refine wp_pop0 (l := V.map wk) (y := wk w) (by simp) ?_
      simp [wk]
      refine free_spec (.inr rfl) hR hT hw.2.1 hw.2.2.1 ?_
      simp
      rw [wp_eqNil dab_nvs]
      simp
      cases hG : (fre R t w.1).isEmpty with
      | true =>
        simp
        exact Gc.pure (junk := [.lst (F.map pv), .lst (V.map wk)]) (by simpa [tv] using cls_nvs) rfl (q1 _)
      | false =>
        have hG' : fre R t w.1 ≠ [] := fun e => by rw [e] at hG; simp at hG
        obtain ⟨u, hu, hat⟩ := last_nv hG'
        simp [hat]
        have hu1 : u ∈ w.1 := (List.mem_filter.mp hu).1
        have hu2 : freB R t w.1 u = true := (List.mem_filter.mp hu).2
        have hun := hw.2.2.1 u hu1
        refine wp_setL (l := F.map pv) (j := u) (by simp) (by simpa using ixN_nat (show u < F.length by omega)) ?_
        simp
        have hwl := nodup_bound _ _ hw.2.1 hw.2.2.1
        refine less_spec (.inr rfl) (by omega) ?_
        try simp
        have hll := les_len hw.2.1 hu1
        refine parts_spec rfl hT (by omega) (les_nodup hw.2.1) (fun y hy => hw.2.2.1 y (les_mem.mp hy).1) ?_
        simp
        have hpl2 := (pt_perm (t := t) (L := les w.1 u)).length_eq
        have eset : (F.map pv).set u (pv w.2) = (F.set u w.2).map pv := by rw [List.map_set]
        rw [eset]
        refine wps_forM (fun r σ st' => ∃ W' : List (List Nat × Pl), σ = [some (rv R), some (fzT es), some (tv w.1), some (.ref st.length), some (.ref (st.length + 1)), some (.lst ((fre R t w.1).map nv)), some (nv u), none, some (pv w.2), none, none] ∧ st' = st ++ [.lst ((F.set u w.2).map pv), .lst (W'.map wk)] ∧ okW R W' ∧ (∀ P ∈ r, P ∈ pt t (les w.1 u)) ∧ wsz W' + r.flatten.length ≤ wsz V + (les w.1 u).length) _ ?_ ?_ ⟨V, rfl, rfl, hV, fun P hP => hP, by omega⟩
        · rintro J hJ P r σ st' ⟨W', rfl, rfl, hW', hm', hz'⟩
          have hP := hm' P List.mem_cons_self
          have hPm : ∀ y ∈ P, y ∈ w.1 ∧ y ≠ u := fun y hy => les_mem.mp (all_sub hP y hy)
          have hPl := nodup_bound _ P (pt_nodup (les_nodup hw.2.1) hP) fun y hy => hw.2.2.1 y (hPm y hy).1
          have hWl := okW_len hW'
          simp only [List.flatten_cons, List.length_append] at hz'
          simp [nv]
          refine over_spec (.inr rfl) hR hT hun (by omega) (fun y hy => ⟨hw.2.2.1 y (hPm y hy).1, (hPm y hy).2⟩) ?_
          have hov : ovr R t u P ≠ [] := by
            unfold freB at hu2
            rw [List.all_eq_true] at hu2
            intro e
            have := hu2 P hP
            rw [e] at this
            simp at this
          obtain ⟨i, hi, hati⟩ := last_nv hov
          simp
          refine ⟨isL_ref (l := W'.map wk) (by simp), ?_⟩
          simp [hati]
          refine wp_append (l := W'.map wk) (by simp) (by simp only [List.length_map, SZ_lit]; omega) ?_
          simp [wipeA]
          refine hJ _ _ _ ⟨W' ++ [(P, some (u, i))], rfl, by simp [wk, pv, pp, nv], ?_, fun P' hP' => hm' P' (List.mem_cons_of_mem _ hP'), ?_⟩
          · intro v hv
            rcases List.mem_append.mp hv with h | h
            · exact hW' v h
            · simp at h
              subst h
              exact ⟨prt_pos _ _ P hP, pt_nodup (les_nodup hw.2.1) hP, fun a ha => hw.2.2.1 a (hPm a ha).1, fun h hh => by cases hh; exact hun⟩
          · rw [wsz_app]
            have : wsz [(P, some (u, i))] = P.length := by simp [wsz]
            omega
        · rintro σ st' ⟨W', rfl, rfl, hW', hm', hz'⟩
          simp [wipeA]
          simp at hz'
          refine ⟨wsz W', by omega, hI _ _ _ ⟨W', F.set u w.2, rfl, by rw [eset], hW', rfl, by omega, by simpa using hF, fun h hh => ?_⟩⟩
          rcases List.mem_or_eq_of_mem_set hh with z | z
          · exact hFh h z
          · exact hw.2.2.2 h z.symm
end
end Lib
set_option Elab.async false
set_option linter.all false
set_option maxRecDepth 100000
set_option maxHeartbeats 2000000
/-! LibX: drawn rooms, forests, sayings. -/
namespace Lib
open PySem PySem.Spec PyProof.Rows L2 DN
section
variable {Q : PV → Store → Prop} {st : Store} {F : List Pl} {R : List Nat} {x y n s : Nat} {p f : PV}
/-- a draw as a Nat -/
theorem takeN {top : Nat} (hs : SrcAt st s) (h0 : 0 < top) (h1 : top < 1000000) (q : ∀ (i : Nat) st', i < top → Dr s st st' → Q (.int i) st') : wp (_law_take [.ref s, .int top] st) Q :=
  take_spec hs (by omega) (by simp only [B200_eq]; omega) fun i st' h2 h3 hd => by
    have := q i.toNat st' (by omega) hd
    rwa [show ((i.toNat : Nat) : Int) = i by omega] at this
theorem rooms_spec {m : Nat} (hs : SrcAt st s) (hm : m ≤ 1000) (q : ∀ R st', R.length = m → (∀ r ∈ R, r ≤ 4) → Dr s st st' → Q (rv R) st') : wp (_law_rooms [.ref s, .int m] st) Q := by
  refine wp_fn ?_
  simp [rgN hm]
  rw [rgP_nat]
  refine wp_lcM (fun (r : List Nat) acc st' => ∃ R : List Nat, acc = R.map nv ∧ R.length + r.length = m ∧ (∀ r ∈ R, r ≤ 4) ∧ Dr s st st') _ _ ?_ ?_ ⟨[], rfl, by simp, by simp, .refl⟩
  · rintro I hI k r acc st' ⟨R, rfl, hl, hR, hd⟩
    simp [wipeA]
    refine one_spec (hd.src hs) (by simp) (by simp) (by simp) fun v st2 hv hd2 => ?_
    have : ∃ c : Nat, v = nv c ∧ c ≤ 4 := by
      simp only [List.mem_cons, List.not_mem_nil, or_false] at hv
      rcases hv with rfl | rfl | rfl | rfl | rfl | rfl | rfl | rfl
      · exact ⟨1, rfl, by omega⟩
      · exact ⟨1, rfl, by omega⟩
      · exact ⟨2, rfl, by omega⟩
      · exact ⟨1, rfl, by omega⟩
      · exact ⟨0, rfl, by omega⟩
      · exact ⟨2, rfl, by omega⟩
      · exact ⟨3, rfl, by omega⟩
      · exact ⟨4, rfl, by omega⟩
    obtain ⟨c, rfl, hc⟩ := this
    refine hI _ _ _ ⟨R ++ [c], by simp, by simp at hl ⊢; omega, fun a ha => ?_, hd.trans hd2⟩
    rcases List.mem_append.mp ha with h | h
    · exact hR a h
    · simp at h; omega
  · rintro acc st' ⟨R, rfl, hl, hR, hd⟩
    simp at hl
    simp
    exact ⟨by omega, Gc.dr0 (s := s) (by simpa using cls_nvs) hd (q R st' hl hR hd)⟩
theorem two_spec (hs : SrcAt st s) (h2 : 2 ≤ R.length) (hz : R.length ≤ 1000) (q : ∀ (x y : Nat) st', x < R.length → y < R.length → x ≠ y → Dr s st st' → Q (.tup [.int x, .int y]) st') : wp (_law_two [.ref s, rv R] st) Q := by
  refine wp_fn ?_
  simp [rv]
  refine takeN hs (by omega) (by omega) fun x st1 hx hd => ?_
  simp
  have e : ((R.length : Int) - 1) = ((R.length - 1 : Nat) : Int) := by omega
  rw [e]
  refine takeN (hd.src hs) (by omega) (by omega) fun k st2 hk hd2 => ?_
  simp
  refine ⟨by omega, ?_⟩
  have e2 : ((x : Int) + 1 + k) % (R.length : Int) = (((x + 1 + k) % R.length : Nat) : Int) := by exact_mod_cast rfl
  rw [e2]
  refine Gc.dr0 (s := s) (by simp) (hd.trans hd2) (q x _ _ hx (Nat.mod_lt _ (by omega)) ?_ (hd.trans hd2))
  intro h
  by_cases hw : x + 1 + k < R.length
  · rw [Nat.mod_eq_of_lt hw] at h; omega
  · rw [Nat.mod_eq_sub_mod (by omega), Nat.mod_eq_of_lt (by omega)] at h; omega
theorem erase_map {α β : Type} {g : α → β} : ∀ {l : List α} {j : Nat}, (l.map g).eraseIdx j = (l.eraseIdx j).map g
  | [], j => by simp
  | a :: l, 0 => by simp
  | a :: l, j + 1 => by simp [erase_map (l := l)]
theorem erase_perm {α : Type} : ∀ {l : List α} {j : Nat} (h : j < l.length), (l[j] :: l.eraseIdx j).Perm l
  | a :: l, 0, _ => by simp
  | a :: l, j + 1, h => by
    have h' : j < l.length := by simpa using h
    have ih := erase_perm (l := l) (j := j) h'
    simp only [List.getElem_cons_succ, List.eraseIdx_cons_succ]
    exact (List.Perm.swap a l[j] _).trans (ih.cons a)
theorem mixed_spec {L : List Nat} {w : PV} (hw : w = .lst (L.map nv)) (hs : SrcAt st s) (hz : L.length ≤ 1000) (q : ∀ (M : List Nat) st', M.Perm L → Dr s st st' → Q (.lst (M.map nv)) st') : wp (_law_mixed [.ref s, w] st) Q := by
  subst hw
  refine wp_fn ?_
  have hlt := hs.lt
  simp [rgN hz]
  refine wps_forRo (fun i σ st' => ∃ (left found : List Nat) (x : Store), σ = [some (.ref s), some (.lst (L.map nv)), none, some (.ref st.length), some (.ref (st.length + 1))] ∧ st' = x ++ [.lst (left.map nv), .lst (found.map nv)] ∧ Dr s st x ∧ (found ++ left).Perm L ∧ (left.length : Int) + i = L.length ∧ 0 ≤ i) ?_ ?_ ⟨L, [], st, rfl, rfl, .refl, by simp, by omega, by omega⟩
  · rintro I hI i σ st' ⟨left, found, x, rfl, rfl, hd, hp, hl, hi0⟩ hi
    have hxl := hd.len
    simp
    refine ⟨isL_ref (l := found.map nv) (by rw [app_get hxl]; rfl), isL_ref (l := left.map nv) (by rw [app_get0 hxl]; rfl), ?_⟩
    rw [wp_lenR (l := left.map nv) (by rw [app_get0 hxl]; rfl)]
    simp
    refine takeN (hd.src hs).app (by omega) (by omega) fun j st2 hj hd2 => ?_
    obtain ⟨x2, rfl, hd3⟩ := Dr.app (by omega) hd2
    have hxl2 : x2.length = st.length := by rw [hd3.len, hxl]
    have hu : left[j]? = some left[j] := List.getElem?_eq_getElem hj
    refine wp_pop1 (l := left.map nv) (y := nv left[j]) (by rw [app_get0 hxl2]; rfl) (by rw [List.getElem?_map, hu]; rfl) (by omega) ?_
    rw [app_set0 hxl2]
    refine wp_append (l := found.map nv) (by rw [app_get hxl2]; rfl) ?_ ?_
    · have := hp.length_eq
      simp only [List.length_append] at this
      simp only [List.length_map, SZ_lit]
      omega
    · rw [app_set hxl2]
      simp [wipeA]
      refine hI _ _ _ ⟨left.eraseIdx j, found ++ [left[j]], x2, rfl, by rw [erase_map]; simp, hd.trans hd3, ?_, by rw [List.length_eraseIdx_of_lt hj]; omega, by omega⟩
      have h1 : (left[j] :: left.eraseIdx j).Perm left := erase_perm hj
      rw [List.append_assoc]
      exact (List.Perm.append_left found h1).trans hp
  · rintro i σ st' ⟨left, found, x, rfl, rfl, hd, hp, hl, hi0⟩ hi
    have : left = [] := List.length_eq_zero_iff.mp (by omega)
    subst this
    simp [wipeA]
    exact Gc.lst (s := s) (x := x) (junk := [.lst [], .lst (found.map nv)]) (n := st.length + 1) (l := found.map nv) cls_nvs hd rfl (by omega) (by rw [List.getElem?_append_right (by rw [hd.len]; omega), hd.len]; simp) (q found x (by simpa using hp) hd)
theorem noR_rank (hw : Wf F) (g : Nat → Nat) (h : ∀ (x : Nat) (q : Nat × Nat), up F x = some q → g q.1 < g x) : noR F := by
  have key : ∀ (k : Nat) (p : Pl) (m : Nat), (∀ q, p = some q → g q.1 < m) → ∀ a ∈ clb F k p, g a.1 < m := by
    intro k
    induction k with
    | zero => intro p m _ a ha; simp [clb] at ha
    | succ k ih =>
      intro p m hp a ha
      cases p with
      | none => simp [clb] at ha
      | some q =>
        have hq := hp q rfl
        simp only [clb, List.mem_cons] at ha
        rcases ha with rfl | ha
        · exact hq
        · exact ih _ m (fun q' hq' => Nat.lt_trans (h _ _ hq') hq) a ha
  intro x hx
  unfold inIt
  rw [List.any_eq_false]
  intro a ha
  have := key _ _ (g x) (fun q hq => h x q hq) a ha
  simp
  intro e
  rw [e] at this
  omega
theorem up_set {x y : Nat} {q : Pl} (hx : x < F.length) : up (F.set x q) y = if y = x then q else up F y := by
  unfold up
  by_cases h : y = x
  · subst h
    rw [if_pos rfl, List.getElem?_set_self hx]
    rfl
  · rw [if_neg h, List.getElem?_set_ne (fun e => h e.symm)]
/-- a forest, each holder ahead of what it holds -/
def okO (R : List Nat) (O : List Nat) (F : List Pl) (k : Nat) : Prop := ∀ (x : Nat) (q : Nat × Nat), up F x = some q → q.2 < rm R q.1 ∧ ∃ i j : Nat, i < j ∧ j < k ∧ O[j]? = some x ∧ O[i]? = some q.1
theorem cut_take {α : Type} {l : List α} {k : Nat} : cut l none (some (k : Int)) = l.take k := by
  simp only [cut, HT.sIx_none, HT.sIx_nat]
  simp
def pos : List Nat → Nat → Nat
  | [], _ => 0
  | a :: l, x => if a = x then 0 else pos l x + 1
theorem pos_at : ∀ {O : List Nat} {j x : Nat}, O.Nodup → O[j]? = some x → pos O x = j
  | [], _, _, _, h => by simp at h
  | a :: l, 0, x, _, h => by simp at h; simp [pos, h]
  | a :: l, j + 1, x, hn, h => by
    have h' : l[j]? = some x := by simpa using h
    have hm : x ∈ l := List.mem_of_getElem? h'
    have : a ≠ x := fun e => (List.nodup_cons.mp hn).1 (e ▸ hm)
    simp [pos, this, pos_at (List.nodup_cons.mp hn).2 h']
theorem grown_spec (hs : SrcAt st s) (hR : okR R) (q : ∀ F st', okF R F → noR F → Dr s st st' → Q (fv F) st') : wp (_law_grown [.ref s, rv R] st) Q := by
  refine wp_fn ?_
  have hlt := hs.lt
  have h24 := hR.1
  simp [rv, rgN (show R.length ≤ 1000 by omega)]
  rw [rgP_nat]
  refine wp_lcA nv _ (fun i hi => by simp [wipeA, nv]) ?_
  simp
  refine ⟨by omega, ?_⟩
  refine mixed_spec rfl hs (by simp; omega) fun O st1 hO hd => ?_
  have hOl := hO.length_eq
  simp at hOl
  have hOn : O.Nodup := hO.nodup_iff.mpr List.nodup_range
  have hOm : ∀ a ∈ O, a < R.length := fun a ha => by simpa using hO.subset ha
  simp [rgN (show R.length ≤ 1000 by omega)]
  refine wp_lcA (fun _ => .non) _ (fun i hi => by simp [wipeA]) ?_
  obtain ⟨F0, hF0, hF0n, e0⟩ : ∃ F0 : List Pl, F0.length = R.length ∧ (∀ h, some h ∉ F0) ∧ (List.range R.length).map (fun _ => PV.non) = F0.map pv := by
    refine ⟨List.replicate R.length none, by simp, by simp, ?_⟩
    rw [List.map_const']
    simp [pv]
  rw [e0]
  have hl1 := hd.len
  simp [hF0]
  refine ⟨by omega, rgN (by omega), ?_⟩
  refine wps_forRo (fun i σ st' => ∃ (k : Nat) (F : List Pl) (x : Store), i = (k : Int) ∧ k ≤ R.length ∧ σ = [some (.ref s), some (rv R), some (.lst (O.map nv)), some (.ref st.length), none, none, none, none, none] ∧ st' = x ++ [.lst (F.map pv)] ∧ Dr s st x ∧ F.length = R.length ∧ okO R O F k) ?_ ?_ ⟨0, F0, st1, rfl, by omega, by rw [← hl1]; rfl, rfl, hd, hF0, fun x q h => absurd (up_mem h) (hF0n q)⟩
  · rintro I hI i σ st' ⟨k, F, x, rfl, hk, rfl, rfl, hd, hF, hO2⟩ hi
    have hxl := hd.len
    have hkO : k < O.length := by omega
    have hOk : O[k]? = some O[k] := List.getElem?_eq_getElem hkO
    have huR : O[k] < R.length := hOm _ (List.getElem_mem hkO)
    generalize O[k] = u at hOk huR
    have skip : ∀ x', Dr s st x' → I ((k : Int) + 1) [some (.ref s), some (rv R), some (.lst (O.map nv)), some (.ref st.length), none, none, none, none, none] (x' ++ [.lst (F.map pv)]) := fun x' hd' => hI _ _ _ ⟨k + 1, F, x', by omega, by omega, rfl, rfl, hd', hF, fun a b h => by
      obtain ⟨h1, i, j, h2, h3, h4⟩ := hO2 a b h
      exact ⟨h1, i, j, h2, by omega, h4⟩⟩
    simp [cut_take]
    rw [← List.map_take]
    refine wp_lcF (fun y => decide (0 < rm R y)) nv _ (fun y hy => ?_) ?_
    · have hy' := hOm y (List.mem_of_mem_take hy)
      simp [wipeA, nv, rv, atI_rv hy']
    · have hfl := List.length_filter_le (fun y => decide (0 < rm R y)) (O.take k)
      have htl : (O.take k).length ≤ 24 := by simp; omega
      simp
      refine ⟨by omega, ?_⟩
      rw [wp_neNil dab_nvs]
      simp
      cases hG : ((O.take k).filter fun y => decide (0 < rm R y)).isEmpty with
      | true =>
        simp [wipeA]
        exact skip x hd
      | false =>
        have hG' : ((O.take k).filter fun y => decide (0 < rm R y)) ≠ [] := fun e => by rw [e] at hG; simp at hG
        generalize hGe : ((O.take k).filter fun y => decide (0 < rm R y)) = G at hfl hG'
        simp
        refine takeN (top := 4) (hd.src hs).app (by omega) (by omega) fun j st2 hj hd2 => ?_
        obtain ⟨x2, rfl, hd3⟩ := Dr.app (by omega) hd2
        simp
        by_cases hj0 : 0 < j
        · rw [cnd_pos (decide_eq_true (by omega))]
          refine one_spec ((hd.trans hd3).src hs).app (by simpa using hG') (by simp only [List.length_map, SZ_lit]; omega) cls_nvs fun v st3 hv hd4 => ?_
          obtain ⟨x3, rfl, hd5⟩ := Dr.app (by rw [hd3.len]; omega) hd4
          obtain ⟨h, hh, rfl⟩ := List.mem_map.mp hv
          rw [← hGe] at hh
          obtain ⟨hh1, hh2⟩ := List.mem_filter.mp hh
          have hh2 : 0 < rm R h := by simpa using hh2
          have hhR := hOm h (List.mem_of_mem_take hh1)
          have h4 := rm_le (x := h) hR
          simp [nv, rv, atI_rv hhR]
          refine takeN (((hd.trans hd3).trans hd5).src hs).app hh2 (by omega) fun r st4 hr hd6 => ?_
          obtain ⟨x4, rfl, hd7⟩ := Dr.app (by rw [hd5.len, hd3.len]; omega) hd6
          have hd8 := ((hd.trans hd3).trans hd5).trans hd7
          have hx4 := hd8.len
          try simp
          refine ⟨nv u, atI_nv hOk, ?_⟩
          refine wp_setL (l := F.map pv) (j := u) (by rw [app_get0 hx4]; rfl) (by simpa using ixN_nat (show u < F.length by omega)) ?_
          rw [app_set0 hx4]
          simp [wipeA]
          refine hI _ _ _ ⟨k + 1, F.set u (some (h, r)), x4, by omega, by omega, rfl, by rw [List.map_set]; rfl, hd8, by simpa using hF, fun a b hab => ?_⟩
          rw [up_set (by omega)] at hab
          by_cases hau : a = u
          · rw [if_pos hau] at hab
            cases hab
            subst hau
            obtain ⟨i, hi1, hi2⟩ := List.mem_iff_getElem.mp hh1
            simp at hi1
            refine ⟨hr, i, k, by omega, by omega, hOk, ?_⟩
            rw [List.getElem_take] at hi2
            rw [← hi2]
            exact List.getElem?_eq_getElem _
          · rw [if_neg hau] at hab
            obtain ⟨h1, i, j, h2, h3, h4⟩ := hO2 a b hab
            exact ⟨h1, i, j, h2, by omega, h4⟩
        · rw [cnd_neg (decide_eq_false (by omega))]
          simp [wipeA]
          exact skip x2 (hd.trans hd3)
  · rintro i σ st' ⟨k, F, x, rfl, hk, rfl, rfl, hd, hF, hO2⟩ hi
    have hxl := hd.len
    simp [wipeA]
    rw [wp_tupR (l := F.map pv) (by rw [app_get0 hxl]; rfl)]
    have hok : okF R F := ⟨hF, fun x hx h hh => by
      obtain ⟨h1, i, j, h2, h3, h4, h5⟩ := hO2 x h hh
      refine ⟨hOm _ (List.mem_of_getElem? h5), fun e => ?_, h1⟩
      have p1 := pos_at hOn h4
      have p2 := pos_at hOn h5
      rw [e] at p2
      omega⟩
    refine Gc.dr (s := s) (x := x) (junk := [.lst (F.map pv)]) (by simpa using cls_pvs) hd rfl (q F x hok (noR_rank hok.wf (pos O) fun x h hh => ?_) hd)
    obtain ⟨h1, i, j, h2, h3, h4, h5⟩ := hO2 x h hh
    rw [pos_at hOn h4, pos_at hOn h5]
    exact h2
end
end Lib
set_option Elab.async false
set_option linter.all false
set_option maxRecDepth 100000
set_option maxHeartbeats 2000000
/-! LibY: drawn sayings; a table lets what all its sayings let. -/
namespace Lib
open PySem PySem.Spec PyProof.Rows L2 DN
section
variable {Q : PV → Store → Prop} {st : Store} {F : List Pl} {R : List Nat} {x y n s : Nat} {p f : PV}
theorem find_mem {F : List Pl} {x y : Nat} {h : Nat × Nat} (e : (clb F F.length (up F x)).find? (fun h => decide (h.1 = y)) = some h) : h ∈ clb F F.length (up F x) ∧ h.1 = y := ⟨List.mem_of_find?_eq_some e, by simpa using List.find?_some e⟩
theorem clb_room (hF : okF R F) : ∀ (k : Nat) (x : Nat), x < F.length → ∀ h ∈ clb F k (up F x), h.2 < rm R h.1 ∧ h.1 < F.length
  | 0, _, _, _, h => by simp [clb] at h
  | k + 1, x, hx, a, h => by
    cases u : up F x with
    | none => rw [u] at h; simp [clb] at h
    | some g =>
      rw [u] at h
      simp only [clb, List.mem_cons] at h
      have hg := hF.2 x hx g u
      rcases h with rfl | h
      · exact ⟨hg.2.2, by rw [hF.1]; exact hg.1⟩
      · exact clb_room hF k g.1 (by rw [hF.1]; exact hg.1) a h
theorem std_mem (hF : okF R F) (hx : x < F.length) (hy : y < F.length) : std F x y ∈ allS R x y := by
  unfold std
  split
  · rename_i h e
    obtain ⟨h1, h2⟩ := find_mem e
    have := clb_room hF _ x hx h h1
    rw [h2] at this
    simp [allS]
    exact this.1
  · split
    · rename_i h e
      obtain ⟨h1, h2⟩ := find_mem e
      have := clb_room hF _ y hy h h1
      rw [h2] at this
      simp [allS]
      exact this.1
    · simp [allS]
/-- y is around x -/
def Ar (F : List Pl) (x y : Nat) : Prop := ∃ h ∈ clb F F.length (up F x), h.1 = y
theorem clb_tail (hw : Wf F) (hn : noR F) : ∀ (k : Nat) (x : Nat), k ≤ F.length → x < F.length → ∀ h ∈ clb F k (up F x), ∀ g ∈ clb F F.length (up F h.1), g ∈ clb F F.length (up F x) := by
  -- a climb that ends is a suffix of the climb below it
  have suf : ∀ (k : Nat) (x m : Nat), x < F.length → ends F m (up F x) → ∀ h ∈ clb F k (up F x), ∀ (j : Nat), ∀ g ∈ clb F j (up F h.1), g ∈ clb F m (up F x) := by
    intro k
    induction k with
    | zero => intro x m _ _ h hh; simp [clb] at hh
    | succ k ih =>
      intro x m hx he h hh j g hg
      cases u : up F x with
      | none => rw [u] at hh; simp [clb] at hh
      | some q =>
        rw [u] at hh he
        cases m with
        | zero => simp [ends] at he
        | succ m =>
          have he' : ends F m (up F q.1) := by simpa [ends] using he
          have hq := hw q (up_mem u)
          simp only [clb, List.mem_cons] at hh ⊢
          have into : ∀ (j m : Nat) (p : Pl), ends F m p → ∀ g ∈ clb F j p, g ∈ clb F m p := by
            intro j
            induction j with
            | zero => intro m p _ g hg; simp [clb] at hg
            | succ j ihj =>
              intro m p he g hg
              cases p with
              | none => simp [clb] at hg
              | some a =>
                cases m with
                | zero => simp [ends] at he
                | succ m =>
                  simp only [clb, List.mem_cons] at hg ⊢
                  exact hg.imp id (ihj m _ (by simpa [ends] using he) g)
          rcases hh with rfl | hh
          · exact .inr (into j m _ he' g hg)
          · exact .inr (ih q.1 m hq he' h hh j g hg)
  intro k x hk hx h hh g hg
  exact suf k x _ hx (ends_all hw hn hx) h hh _ g hg
theorem ar_anti (hw : Wf F) (hn : noR F) (hx : x < F.length) (h1 : Ar F x y) (h2 : Ar F y x) : False := by
  obtain ⟨h, hh, rfl⟩ := h1
  obtain ⟨g, hg, e⟩ := h2
  have := clb_tail hw hn _ x (Nat.le_refl _) hx h hh g hg
  have z := hn x hx
  unfold inIt at z
  rw [List.any_eq_false] at z
  exact z g this (by simpa using e)
theorem std_turn (hw : Wf F) (hn : noR F) (hx : x < F.length) : std F y x = turn (std F x y) := by
  unfold std
  cases e1 : (clb F F.length (up F x)).find? fun h => decide (h.1 = y) with
  | some h =>
    obtain ⟨h1, h2⟩ := find_mem e1
    cases e2 : (clb F F.length (up F y)).find? fun h => decide (h.1 = x) with
    | some g =>
      obtain ⟨h3, h4⟩ := find_mem e2
      exact (ar_anti hw hn hx ⟨h, h1, h2⟩ ⟨g, h3, h4⟩).elim
    | none => simp [turn]
  | none =>
    cases e2 : (clb F F.length (up F y)).find? fun h => decide (h.1 = x) with
    | some g => simp [turn]
    | none => simp [turn]
/-- a forest holds all sayings just if it stands as the table lets -/
theorem kept_iff {S : List Sy} (hF : okF R F) (hn : noR F) (hS : ∀ s ∈ S, okSy R s) : (∀ x, x < F.length → ∀ y, y < x → std F x y ∈ tbl R S x y) ↔ ∀ s ∈ S, std F s.x s.y ∈ s.lot := by
  have hw := hF.wf
  constructor
  · intro h s hs
    obtain ⟨h1, h2, h3, h4⟩ := hS s hs
    rw [← hF.1] at h1 h2
    rcases Nat.lt_or_gt_of_ne h3 with z | z
    · have := h s.y h2 s.x z
      unfold tbl at this
      have := (List.mem_filter.mp this).2
      rw [List.all_eq_true] at this
      have := this s hs
      simp at this
      rw [std_turn (x := s.y) (y := s.x) hw hn h2]
      exact this.2
    · have := h s.x h1 s.y z
      unfold tbl at this
      have := (List.mem_filter.mp this).2
      rw [List.all_eq_true] at this
      have := this s hs
      simp at this
      exact this.1
  · intro h x hx y hy
    unfold tbl
    refine List.mem_filter.mpr ⟨std_mem hF hx (by omega), ?_⟩
    rw [List.all_eq_true]
    intro s hs
    have hs' := h s hs
    simp
    constructor
    · by_cases e : s.x = x ∧ s.y = y
      · right
        obtain ⟨rfl, rfl⟩ := e
        exact hs'
      · left
        omega
    · by_cases e : s.x = y ∧ s.y = x
      · right
        obtain ⟨rfl, rfl⟩ := e
        rw [← std_turn hw hn hx]
        exact hs'
      · left
        omega
/-! drawn sayings -/
theorem isA {z : Sd} : ∃ w r, sv z = .tup [.str w, r] := by cases z <;> exact ⟨_, _, rfl⟩
theorem saying_spec (hs : SrcAt st s) (hR : okR R) (h2 : 2 ≤ R.length) (hF : okF R F) (q : ∀ z st', okSy R z → Dr s st st' → Q (syv z) st') : wp (_law_saying [.ref s, rv R, fv F] st) Q := by
  refine wp_fn ?_
  have hlt := hs.lt
  have h24 := hR.1
  simp [rv]
  refine takeN hs (by omega) (by omega) fun x st1 hx hd => ?_
  simp
  have e : ((R.length : Int) - 1) = ((R.length - 1 : Nat) : Int) := by omega
  rw [e]
  refine takeN (hd.src hs) (by omega) (by omega) fun k st2 hk hd2 => ?_
  have e2 : ((x : Int) + 1 + k) % (R.length : Int) = (((x + 1 + k) % R.length : Nat) : Int) := by exact_mod_cast rfl
  have hxy : x ≠ (x + 1 + k) % R.length := by
    intro h
    by_cases hw : x + 1 + k < R.length
    · rw [Nat.mod_eq_of_lt hw] at h; omega
    · rw [Nat.mod_eq_sub_mod (by omega), Nat.mod_eq_of_lt (by omega)] at h; omega
  have hy : (x + 1 + k) % R.length < R.length := Nat.mod_lt _ (by omega)
  simp
  refine ⟨by omega, ?_⟩
  rw [e2]
  generalize (x + 1 + k) % R.length = y at hxy hy
  have hFl := hF.1
  refine standing_spec hF.wf (by omega) (by omega) (by omega) ?_
  refine takeN (top := 12) ((hd.trans hd2).src hs) (by omega) (by omega) fun j st3 hj hd3 => ?_
  have hd4 := (hd.trans hd2).trans hd3
  have hl4 := hd4.len
  simp
  refine every_spec hR hx hy ?_
  simp
  refine wps_forM (fun r σ st' => ∃ (D L : List Sd) (x' : Store), σ = [some (.ref s), some (rv R), some (fv F), some (.int x), some (.int y), none, some (sv (std F x y)), some (.bl (decide (0 < j))), some (.ref st.length), none] ∧ st' = x' ++ [.lst (L.map sv)] ∧ Dr s st x' ∧ allS R x y = D ++ r ∧ L.Sublist D) _ ?_ ?_ ⟨[], [], st3, by simp [hl4, rv, nv], rfl, hd4, rfl, .slnil⟩
  · rintro I hI z r σ st' ⟨D, L, x', rfl, rfl, hd5, e3, hsub⟩
    have hl5 := hd5.len
    obtain ⟨w, v, ew⟩ := isA (z := z)
    have hLl : L.length ≤ 9 := by
      have := (hsub.trans (List.sublist_append_left D (z :: r))).length_le
      rw [← e3] at this
      exact Nat.le_trans this (allS_len hR)
    have skip : ∀ x2, Dr s st x2 → I r [some (.ref s), some (rv R), some (fv F), some (.int x), some (.int y), none, some (sv (std F x y)), some (.bl (decide (0 < j))), some (.ref st.length), none] (x2 ++ [.lst (L.map sv)]) := fun x2 h => hI _ _ _ ⟨D ++ [z], L, x2, rfl, rfl, h, by rw [e3]; simp, hsub.trans (List.sublist_append_left _ _)⟩
    have put : ∀ x2, Dr s st x2 → I r [some (.ref s), some (rv R), some (fv F), some (.int x), some (.int y), none, some (sv (std F x y)), some (.bl (decide (0 < j))), some (.ref st.length), none] (x2 ++ [.lst ((L ++ [z]).map sv)]) := fun x2 h => hI _ _ _ ⟨D ++ [z], L ++ [z], x2, rfl, rfl, h, by rw [e3]; simp, hsub.append (List.Sublist.refl _)⟩
    have ix : ∀ (Q : PV → Store → Prop) st, wp (pIx (sv z) (.int 0) st) Q = Q (.str w) st := fun Q st => by rw [ew]; simp
    simp [ix]
    refine ⟨fun _ => ?_, fun _ => ?_⟩
    all_goals
      refine take_spec (hd5.src hs).app (by omega) (by simp only [B200_eq]; omega) fun i st4 hi1 hi2 hd6 => ?_
      obtain ⟨x2, rfl, hd7⟩ := Dr.app (by omega) hd6
      have hd8 := hd5.trans hd7
      have hl8 := hd8.len
      have app : ∀ (σ : AE) (h : wipeA σ [5, 9] = [some (.ref s), some (rv R), some (fv F), some (.int x), some (.int y), none, some (sv (std F x y)), some (.bl (decide (0 < j))), some (.ref st.length), none]), wp (mAppend (.ref st.length) [sv z] (x2 ++ [.lst (L.map sv)])) fun _ st' => I r (wipeA σ [5, 9]) st' := fun σ h => by
        refine wp_append (l := L.map sv) (by rw [app_get0 hl8]; rfl) (by simp only [List.length_map, SZ_lit]; omega) ?_
        rw [app_set0 hl8, h]
        simpa using put x2 hd8
      have il : isL (.ref st.length) (x2 ++ [SO.lst (L.map sv)]) = true := isL_ref (l := L.map sv) (by rw [app_get0 hl8]; rfl)
      simp
      refine ⟨fun _ => ⟨il, app _ (by simp [wipeA])⟩, fun _ => ⟨fun _ => ?_, fun _ => ?_⟩⟩
      · rw [wp_eqD (dpv_sv (by omega)) (dpv_sv (by omega))]
        simp
        refine ⟨fun _ => ⟨il, app _ (by simp [wipeA])⟩, fun _ => ?_⟩
        simp [wipeA]
        exact skip x2 hd8
      · simp [wipeA]
        exact skip x2 hd8
  · rintro σ st' ⟨D, L, x', rfl, rfl, hd5, e3, hsub⟩
    have hl5 := hd5.len
    simp [wipeA]
    rw [wp_tupR (l := L.map sv) (by rw [app_get0 hl5]; rfl)]
    refine Gc.dr (s := s) (x := x') (junk := [.lst (L.map sv)]) (by simpa using cl_svs) hd5 rfl ?_
    exact q ⟨x, y, L⟩ x' ⟨hx, hy, hxy, by simpa [e3] using hsub⟩ hd5
theorem cl_syv {z : Sy} : cl (syv z) = true := by simpa [syv] using cl_svs
theorem cls_syvs {S : List Sy} : cls (S.map syv) = true := cls_iff.mpr fun p hp => by
  obtain ⟨z, _, rfl⟩ := List.mem_map.mp hp
  exact cl_syv
theorem dab_syv {z : Sy} {m : Nat} (h : 3 ≤ m) : dab m (syv z) = true := by
  obtain ⟨m, rfl⟩ : ∃ k, m = k + 3 := ⟨m - 3, by omega⟩
  simp [syv, dab]
  intro s _
  exact dab_sv (by omega)
theorem sayings_spec {m : Nat} (hs : SrcAt st s) (hR : okR R) (hm : m ≤ 900) (q : ∀ (S : List Sy) st', (∀ z ∈ S, okSy R z) → S.length ≤ m → Dr s st st' → Q (.lst (S.map syv)) st') : wp (_law_sayings [.ref s, rv R, .int m] st) Q := by
  refine wp_fn ?_
  simp
  refine grown_spec hs hR fun F st1 hF hn hd => ?_
  simp [rv]
  by_cases h2 : R.length < 2
  · rw [cnd_pos (decide_eq_true (by omega))]
    exact Gc.dr0 (s := s) (by simp) hd (q [] st1 (by simp) (by simp) hd)
  · rw [cnd_neg (decide_eq_false (by omega))]
    have e : ((m : Int) + 1) = ((m + 1 : Nat) : Int) := by omega
    rw [e]
    refine takeN (hd.src hs) (by omega) (by omega) fun k st2 hk hd2 => ?_
    simp
    refine ⟨rgN (by omega), ?_⟩
    rw [rgP_nat]
    have hd3 := hd.trans hd2
    refine wp_lcM (fun (r : List Nat) acc st' => ∃ S : List Sy, acc = S.map syv ∧ S.length + r.length = k ∧ (∀ z ∈ S, okSy R z) ∧ Dr s st st') _ _ ?_ ?_ ⟨[], rfl, by simp, by simp, hd3⟩
    · rintro I hI i r acc st' ⟨S, rfl, hl, hS, hd4⟩
      simp [wipeA]
      refine saying_spec (hd4.src hs) hR (by omega) hF fun z st3 hz hd5 => ?_
      refine hI _ _ _ ⟨S ++ [z], by simp, by simp at hl ⊢; omega, fun a ha => ?_, hd4.trans hd5⟩
      rcases List.mem_append.mp ha with h | h
      · exact hS a h
      · simp at h; subst h; exact hz
    · rintro acc st' ⟨S, rfl, hl, hS, hd4⟩
      simp at hl
      simp
      exact ⟨by omega, Gc.dr0 (s := s) (by simpa using cls_syvs) hd4 (q S st' hS (by omega) hd4)⟩
theorem wp_neBB {a b : Bool} : wp (pNe (.bl a) (.bl b) st) Q = Q (.bl (!decide (a = b))) st := by
  have h : ∀ a : Bool, SeqAt.shaped (.bool a) = true := fun a => shaped_of (by simp [PyData.canLay0]) (by simp [PyData.depth])
  have e : PyData.eqv (.bool a) (.bool b) = decide (a = b) := by cases a <;> cases b <;> rfl
  simp only [pNe, pEqB, toD, toD0, h, e, and_self, if_true, Res.bind, wp_ok]
end
end Lib
set_option Elab.async false
set_option linter.all false
set_option maxRecDepth 100000
set_option maxHeartbeats 4000000
/-! K12D: what the defs compute. Printed by gen.py. -/
namespace K12
open PySem PySem.Spec PyProof.Rows L2 DN
noncomputable def d__law_loose : List PV → M PV := dFn 5 11
  (sSeq (sAsg (dAl mLstR dA0) (tName 5))
  (sSeq (sFor (iRg1 (dAl Lib._law_take (dAc (dVar 0) (dAc (d2 pAdd (dVar 2) (dC (.int 1))) dA0)))) (tName 6) (sSeq (sAsg (dAl Lib._law_two (dAc (dVar 0) (dAc (dVar 1) dA0))) (tTupP 2 (tCons (tName 9) (tCons (tName 10) tNil))))
  (sSeq (sAsg (dAl mLstR dA0) (tName 7))
  (sSeq (sFor (iSeq (dAl Lib._law_every (dAc (dVar 1) (dAc (dVar 9) (dAc (dVar 10) dA0))))) (tName 8) (sIf (bOr (bAnd (bVal (d2 pEq (d2 pIx (dVar 8) (dC (.int 0))) (dC (.str ("apart" : Str))))) (bVal (d2 pEq (dAl Lib._law_take (dAc (dVar 0) (dAc (dVar 3) dA0))) (dC (.int 0))))) (bAnd (bVal (d2 pNe (d2 pIx (dVar 8) (dC (.int 0))) (dC (.str ("apart" : Str))))) (bVal (d2 pGt (dAl Lib._law_take (dAc (dVar 0) (dAc (dVar 4) dA0))) (dC (.int 0)))))) (sExpr (dM isL mAppend (dVar 7) (dAc (dVar 8) dA0))) sNext) [8])
  (sExpr (dM isL mAppend (dVar 5) (dAc (dAl mTup (dAc (dVar 9) (dAc (dVar 10) (dAc (dAl qTup (dAc (dVar 7) dA0)) dA0)))) dA0)))))) [6, 9, 10, 7, 8])
  (sRet (dVar 5))))
noncomputable def d__law_world : List PV → M PV := dFn 3 5
  (sSeq (sAsg (dAl Lib._law_rooms (dAc (dVar 0) (dAc (d2 pAdd (dC (.int 1)) (d2 pMod (dAl Lib._law_one (dAc (dVar 0) (dAc (dAl mLst (dAc (dC (.int 1)) (dAc (dC (.int 2)) (dAc (dC (.int 3)) (dAc (dC (.int 4)) (dAc (dC (.int 5)) (dAc (dC (.int 0)) dA0))))))) dA0))) (dVar 1))) dA0))) (tName 3))
  (sSeq (sIf (bVal (d2 pLt (dAl qLen (dAc (dVar 3) dA0)) (dC (.int 2)))) (sRet (dAl mTup (dAc (dVar 3) (dAc (dAl mLst dA0) dA0)))) sNext)
  (sSeq (sAsg (dAl Lib._law_take (dAc (dVar 0) (dAc (dC (.int 3)) dA0))) (tName 4))
  (sSeq (sIf (bVal (d2 pEq (dVar 4) (dC (.int 0)))) (sRet (dAl mTup (dAc (dVar 3) (dAc (dAl Lib._law_sayings (dAc (dVar 0) (dAc (dVar 3) (dAc (dVar 2) dA0)))) dA0)))) sNext)
  (sRet (dAl mTup (dAc (dVar 3) (dAc (dAl d__law_loose (dAc (dVar 0) (dAc (dVar 3) (dAc (dVar 2) (dAc (dC (.int 7)) (dAc (d2 pMul (dC (.int 2)) (dVar 4)) dA0)))))) dA0))))))))
noncomputable def d__law_placed : List PV → M PV := dFn 3 3
  (sRet (d2 pAdd (d2 pAdd (dSl (dVar 0) oNone (oSome (dVar 1))) (dAl mTup (dAc (dVar 2) dA0))) (dSl (dVar 0) (oSome (d2 pAdd (dVar 1) (dC (.int 1)))) oNone)))
noncomputable def d__law_odd : List PV → M PV := dFn 3 11
  (sSeq (sAsg (dAl qLen (dAc (dVar 1) dA0)) (tName 3))
  (sSeq (sAsg (dAl mTup (dAc (dAl Lib._law_take (dAc (dVar 0) (dAc (dVar 3) dA0))) (dAc (dAl Lib._law_take (dAc (dVar 0) (dAc (dVar 3) dA0))) dA0))) (tTupP 2 (tCons (tName 8) (tCons (tName 9) tNil))))
  (sSeq (sAsg (dAl mLst (dAc (dAl mTup (dAc (dC (.bl true)) (dAc (dC (.int 0)) dA0))) (dAc (dAl mTup (dAc (dC (.bl false)) (dAc (dC (.int 0)) dA0))) (dAc (dAl mTup (dAc (dVar 9) (dAc (dC (.bl false)) dA0))) (dAc (dAl mTup (dAc (dVar 9) (dAc (dC (.bl true)) dA0))) dA0))))) (tName 4))
  (sSeq (sAsg (dAl mLst (dAc (dAl mTup (dAc (dVar 9) dA0)) (dAc (dAl mTup (dAc (dVar 9) (dAc (dC (.int 0)) (dAc (dC (.int 0)) dA0)))) (dAc (dVar 9) (dAc (dC (.str ("floor" : Str))) (dAc (dAl mTup dA0) (dAc (dAl mTup (dAc (dC (.str ("apart" : Str))) (dAc (dC (.int 0)) dA0))) (dAc (dAl mTup (dAc (dC .non) (dAc (dC (.int 0)) dA0))) (dAc (dAl mTup (dAc (dVar 9) (dAc (dC .non) dA0))) dA0))))))))) (tName 5))
  (sSeq (sAsg (dAl mLst (dAc (dAl mTup (dAc (d1 pNeg (dC (.int 1))) (dAc (dC (.int 0)) dA0))) (dAc (dAl mTup (dAc (dVar 9) (dAc (d1 pNeg (dC (.int 1))) dA0))) (dAc (dAl mTup (dAc (dVar 3) (dAc (dC (.int 0)) dA0))) (dAc (dAl mTup (dAc (d2 pPow (dC (.int 10)) (dC (.int 30))) (dAc (dC (.int 0)) dA0))) (dAc (dAl mTup (dAc (dVar 9) (dAc (d2 pPow (dC (.int 10)) (dC (.int 30))) dA0))) dA0)))))) (tName 6))
  (sSeq (sAsg (dCompL (iSeq (d2 pAdd (dVar 4) (dVar 6))) (tName 10) bYes (dAl d__law_placed (dAc (dVar 2) (dAc (dVar 8) (dAc (dVar 10) dA0)))) [10] mLstR) (tName 7))
  (sSeq (sExpr (dM isL mAppend (dVar 7) (dAc (dAl d__law_placed (dAc (dVar 2) (dAc (dVar 8) (dAc (dAl Lib._law_one (dAc (dVar 0) (dAc (dVar 5) dA0))) dA0)))) dA0)))
  (sSeq (sExpr (dM isL mExtend (dVar 7) (dAc (dAl mLst (dAc (d2 pAdd (dVar 2) (dAl mTup (dAc (dC .non) dA0))) (dAc (dSl (dVar 2) oNone (oSome (d2 pSub (dVar 3) (dC (.int 1))))) (dAc (dAl mTup (dAc (dVar 2) dA0)) (dAc (dC .non) (dAc (dC (.bl true)) (dAc (dC (.int 0)) (dAc (dC (.str ("form" : Str))) dA0)))))))) dA0)))
  (sRet (dVar 7))))))))))
noncomputable def d__law_moved : List PV → M PV := dFn 3 9
  (sSeq (sPar 5 6 (dAc (dAl qLen (dAc (dVar 1) dA0)) (dAc (dAl mLstR (dAc (dVar 2) dA0)) dA0)))
  (sSeq (sAsg (dCompL (iRg1 (dVar 5)) (tName 4) bYes (dVar 4) [4] mLst) (tName 3))
  (sSeq (sIf (bVal (d2 pGt (dVar 5) (dC (.int 3)))) (sAsg (dAl mLst (dAc (dAl Lib._law_take (dAc (dVar 0) (dAc (dVar 5) dA0))) dA0)) (tName 3)) sNext)
  (sSeq (sFor (iSeq (dVar 3)) (tName 4) (sSeq (sExpr (dM isL mAppend (dVar 6) (dAc (dAl d__law_placed (dAc (dVar 2) (dAc (dVar 4) (dAc (dC .non) dA0)))) dA0)))
  (sFor (iRg1 (dVar 5)) (tName 7) (sExpr (dM isL mExtend (dVar 6) (dAc (dCompL (iRg1 (d2 pAdd (d2 pIx (dVar 1) (dVar 7)) (dC (.int 1)))) (tName 8) bYes (dAl d__law_placed (dAc (dVar 2) (dAc (dVar 4) (dAc (dAl mTup (dAc (dVar 7) (dAc (dVar 8) dA0))) dA0)))) [8] mLst) dA0))) [7])) [4, 7])
  (sSeq (sAsg (dAl mTup (dAc (dAl Lib._law_take (dAc (dVar 0) (dAc (dVar 5) dA0))) (dAc (dAl Lib._law_take (dAc (dVar 0) (dAc (dVar 5) dA0))) dA0))) (tTupP 2 (tCons (tName 4) (tCons (tName 7) tNil))))
  (sSeq (sExpr (dM isL mAppend (dVar 6) (dAc (dAl d__law_placed (dAc (dAl d__law_placed (dAc (dVar 2) (dAc (dVar 4) (dAc (d2 pIx (dVar 2) (dVar 7)) dA0)))) (dAc (dVar 7) (dAc (d2 pIx (dVar 2) (dVar 4)) dA0)))) dA0)))
  (sRet (dVar 6))))))))
noncomputable def d__law_no_book : List PV → M PV := dFn 2 7
  (sSeq (sAsg (dVar 1) (tTupP 2 (tCons (tName 5) (tCons (tName 6) tNil))))
  (sSeq (sAsg (dAl qLen (dAc (dVar 5) dA0)) (tName 2))
  (sSeq (sAsg (dAl mLst (dAc (dAl mTup (dAc (dC (.int 0)) (dAc (dC (.int 0)) (dAc (dAl mTup dA0) dA0)))) (dAc (dAl mTup (dAc (dC (.int 0)) (dAc (dVar 2) (dAc (dAl mTup dA0) dA0)))) (dAc (dAl mTup (dAc (dVar 2) (dAc (dC (.int 0)) (dAc (dAl mTup dA0) dA0)))) (dAc (dAl mTup (dAc (d1 pNeg (dC (.int 1))) (dAc (dC (.int 0)) (dAc (dAl mTup dA0) dA0)))) (dAc (dAl mTup (dAc (dC (.int 0)) (dAc (dC (.int 1)) dA0))) (dAc (dC .non) (dAc (dAl mTup (dAc (dC (.int 0)) (dAc (dC (.int 1)) (dAc (dAl mTup dA0) (dAc (dAl mTup dA0) dA0))))) (dAc (dAl mTup (dAc (dC (.int 0)) (dAc (dC (.int 1)) (dAc (dAl mTup (dAc (dAl mTup (dAc (dC (.str ("apart" : Str))) (dAc (dC (.int 1)) dA0))) dA0)) dA0)))) dA0))))))))) (tName 3))
  (sSeq (sAsg (dAl Lib._law_take (dAc (dVar 0) (dAc (dC (.int 6)) dA0))) (tName 4))
  (sSeq (sIf (bVal (d2 pEq (dVar 4) (dC (.int 0)))) (sRet (dAl Lib._law_one (dAc (dVar 0) (dAc (dAl mLst (dAc (dAl mTup (dAc (dVar 6) (dAc (dVar 5) (dAc (dAl mTup dA0) dA0)))) (dAc (dAl mTup (dAc (dVar 5) (dAc (dC (.int 0)) dA0))) (dAc (dAl mTup (dAc (dC (.int 0)) (dAc (dVar 6) dA0))) (dAc (dAl mTup (dAc (dVar 5) dA0)) (dAc (dC .non) (dAc (dC (.str ("book" : Str))) (dAc (d2 pAdd (dVar 1) (dAl mTup (dAc (dC .non) dA0))) dA0)))))))) dA0)))) sNext)
  (sSeq (sIf (bVal (d2 pEq (dVar 4) (dC (.int 1)))) (sRet (dAl mTup (dAc (d2 pAdd (dSl (dVar 5) oNone (oSome (d2 pSub (dVar 2) (dC (.int 1))))) (dAl mTup (dAc (dAl Lib._law_one (dAc (dVar 0) (dAc (dAl mLst (dAc (dC (.int 5)) (dAc (d1 pNeg (dC (.int 1))) (dAc (dC .non) (dAc (dC (.bl true)) (dAc (dAl mTup (dAc (dC (.int 1)) dA0)) dA0)))))) dA0))) dA0))) (dAc (dVar 6) dA0)))) sNext)
  (sRet (dAl mTup (dAc (dVar 5) (dAc (d2 pAdd (dVar 6) (dAl mTup (dAc (dAl Lib._law_one (dAc (dVar 0) (dAc (dVar 3) dA0))) dA0))) dA0))))))))))
noncomputable def d_law : List PV → M PV := dFn 1 14
  (sSeq (sFor (iRg1 (dC (.int 2))) (tName 1) (sSeq (sAsg (dAl Lib._law_pool (dAc (dVar 0) (dAc (dVar 1) dA0))) (tName 2))
  (sSeq (sAsg (dAl d__law_world (dAc (dVar 2) (dAc (d2 pSub (dC (.int 6)) (d2 pMul (dC (.int 2)) (dVar 1))) (dAc (dC (.int 9)) dA0)))) (tTupP 2 (tCons (tName 7) (tCons (tName 8) tNil))))
  (sSeq (sAsg (dSl (dVar 8) oNone (oSome (d2 pDiv (dAl qLen (dAc (dVar 8) dA0)) (dC (.int 2))))) (tName 3))
  (sSeq (sPar 9 10 (dAc (dAl mLst (dAc (dAl mTup (dAc (dVar 7) (dAc (dAl qTup (dAc (dVar 8) dA0)) dA0))) (dAc (dAl mTup (dAc (dVar 7) (dAc (dAl qTup (dAc (dVar 3) dA0)) dA0))) dA0))) (dAc (dAl mLst (dAc (dAl Lib._law_table (dAc (dVar 7) (dAc (dVar 8) dA0))) (dAc (dAl Lib._law_table (dAc (dVar 7) (dAc (dVar 3) dA0))) dA0))) dA0)))
  (sSeq (sAsg (d2 pIx (dAl Lib._law_solved (dAc (dVar 7) (dAc (d2 pIx (dVar 10) (dC (.int 0))) dA0))) (dC (.int 0))) (tName 4))
  (sSeq (sIf (bVal (d2 pIs (dVar 4) (dC .non))) (sAsg (dAl Lib._law_grown (dAc (dVar 2) (dAc (dVar 7) dA0))) (tName 4)) sNext)
  (sSeq (sAsg (d2 pAdd (d2 pAdd (dAl mLst (dAc (dVar 4) dA0)) (dAl d__law_moved (dAc (dVar 2) (dAc (dVar 7) (dAc (dVar 4) dA0))))) (dAl d__law_odd (dAc (dVar 2) (dAc (dVar 7) (dAc (dVar 4) dA0))))) (tName 5))
  (sSeq (sFor (iRg1 (dAl qLen (dAc (dVar 5) dA0))) (tName 6) (sSeq (sAsg (dIf (bVal (d2 pEq (dVar 6) (dC (.int 0)))) (dC (.int 0)) (d2 pMod (dAl qInt (dAc (d2 pAdd (dVar 6) (dVar 1)) dA0)) (dC (.int 2)))) (tName 11))
  (sSeq (sAsg (dAl Lib.keeps (dAc (d2 pIx (dVar 9) (dVar 11)) (dAc (d2 pIx (dVar 5) (dVar 6)) dA0))) (tName 12))
  (sSeq (sAsg (dAnd (dAl Lib._law_is_forest (dAc (dVar 7) (dAc (d2 pIx (dVar 5) (dVar 6)) dA0))) (dAl Lib._law_kept (dAc (d2 pIx (dVar 10) (dVar 11)) (dAc (d2 pIx (dVar 5) (dVar 6)) dA0)))) (tName 13))
  (sIf (bOr (bNot (bTruth (dAl qIsI (dAc (dVar 12) (dAc (dC (.ty "bool")) dA0))))) (bVal (d2 pNe (dVar 12) (dVar 13)))) (sRet (dC (.bl false))) sNext)))) [6, 11, 12, 13])
  (sIf (bVal (d2 pIsNot (dAl Lib.keeps (dAc (dAl d__law_no_book (dAc (dVar 2) (dAc (d2 pIx (dVar 9) (dC (.int 0))) dA0))) (dAc (dVar 4) dA0))) (dC (.bl false)))) (sRet (dC (.bl false))) sNext))))))))) [1, 2, 7, 8, 3, 9, 10, 4, 5, 6, 11, 12, 13])
  (sRet (dC (.bl true))))
end K12
set_option Elab.async false
set_option linter.all false
set_option maxRecDepth 100000
set_option maxHeartbeats 4000000
/-! K12O: that the defs compute it. Printed by gen.py. -/
namespace K12
open PySem PySem.Spec PyProof.Rows L2 DN
def top (i : Nat) : Stmt := PySem.Challenge.pw_nestsay_k12_forms_bent_and_judged.main.body.getD i (.Pass ⟨0, 0, 0, 0⟩)
abbrev s__law_pool : Stmt := top 29
abbrev s__law_take : Stmt := top 30
abbrev s__law_one : Stmt := top 31
abbrev s__law_rooms : Stmt := top 46
abbrev s__law_two : Stmt := top 50
abbrev s__law_every : Stmt := top 36
abbrev s__law_loose : Stmt := top 51
abbrev s__law_mixed : Stmt := top 32
abbrev s__law_grown : Stmt := top 47
abbrev s__law_climb : Stmt := top 33
abbrev s__law_standing : Stmt := top 34
abbrev s__law_saying : Stmt := top 48
abbrev s__law_sayings : Stmt := top 49
abbrev s__law_world : Stmt := top 52
abbrev s__law_parts : Stmt := top 39
abbrev s__law_less : Stmt := top 40
abbrev s__law_over : Stmt := top 41
abbrev s__law_free : Stmt := top 42
abbrev s__law_solved : Stmt := top 43
abbrev s__law_placed : Stmt := top 53
abbrev s__law_odd : Stmt := top 55
abbrev s_room_way : Stmt := top 12
abbrev s_standing_in : Stmt := top 17
abbrev s_first_broken : Stmt := top 26
abbrev s_is_pair : Stmt := top 23
abbrev s_is_whole : Stmt := top 3
abbrev s_is_rooms : Stmt := top 4
abbrev s_all_standings : Stmt := top 15
abbrev s_is_standing : Stmt := top 16
abbrev s_is_lets : Stmt := top 19
abbrev s_is_thing : Stmt := top 5
abbrev s_says_right : Stmt := top 20
abbrev s_first_wrong : Stmt := top 24
abbrev s_is_book : Stmt := top 25
abbrev s_is_place : Stmt := top 7
abbrev s_first_bad : Stmt := top 9
abbrev s_lies_in_itself : Stmt := top 8
abbrev s_first_ring : Stmt := top 10
abbrev s_is_forest : Stmt := top 11
abbrev s_keeps : Stmt := top 27
abbrev s__law_turned : Stmt := top 35
abbrev s__law_table : Stmt := top 37
abbrev s__law_moved : Stmt := top 54
abbrev s__law_number : Stmt := top 44
abbrev s__law_is_forest : Stmt := top 45
abbrev s__law_kept : Stmt := top 38
abbrev s__law_no_book : Stmt := top 56
abbrev s_law : Stmt := top 57
structure Fx (K : PySem.W.Frag) (mg : Str → Option Value) : Prop where
  n_len : mg "len" = none
  n_int : mg "int" = none
  n_str : mg "str" = none
  n_tuple : mg "tuple" = none
  n_list : mg "list" = none
  n_max : mg "max" = none
  n_isinstance : mg "isinstance" = none
  n_sorted : mg "sorted" = none
  n_range : mg "range" = none
  n_enumerate : mg "enumerate" = none
  n_bool : mg "bool" = none
  c_MOST_THINGS : ∃ t, mg "MOST_THINGS" = some (.int 24 t)
  c_MOST_ROOMS : ∃ t, mg "MOST_ROOMS" = some (.int 4 t)
  c_MOST_SAYINGS : ∃ t, mg "MOST_SAYINGS" = some (.int 400 t)
  t_APART : ∃ a, mg "APART" = some (.ref a) ∧ ∀ (T : TR) ρ H, Rl ⟨K, mg, T⟩ ρ H (.tup [(.str ("apart" : Str)), (.int 0)]) (.ref a)
  d__law_pool : ∃ f fd, FunD K "_law_pool" "_law_pool" (defArgs s__law_pool) (defBody s__law_pool) (defScope s__law_pool) [] [] f fd ∧ mg "_law_pool" = some (.ref f)
  d__law_take : ∃ f fd, FunD K "_law_take" "_law_take" (defArgs s__law_take) (defBody s__law_take) (defScope s__law_take) [] [] f fd ∧ mg "_law_take" = some (.ref f)
  d__law_one : ∃ f fd, FunD K "_law_one" "_law_one" (defArgs s__law_one) (defBody s__law_one) (defScope s__law_one) [] [] f fd ∧ mg "_law_one" = some (.ref f)
  d__law_rooms : ∃ f fd, FunD K "_law_rooms" "_law_rooms" (defArgs s__law_rooms) (defBody s__law_rooms) (defScope s__law_rooms) [] [] f fd ∧ mg "_law_rooms" = some (.ref f)
  d__law_two : ∃ f fd, FunD K "_law_two" "_law_two" (defArgs s__law_two) (defBody s__law_two) (defScope s__law_two) [] [] f fd ∧ mg "_law_two" = some (.ref f)
  d__law_every : ∃ f fd, FunD K "_law_every" "_law_every" (defArgs s__law_every) (defBody s__law_every) (defScope s__law_every) [] [] f fd ∧ mg "_law_every" = some (.ref f)
  d__law_loose : ∃ f fd, FunD K "_law_loose" "_law_loose" (defArgs s__law_loose) (defBody s__law_loose) (defScope s__law_loose) [] [] f fd ∧ mg "_law_loose" = some (.ref f)
  d__law_mixed : ∃ f fd, FunD K "_law_mixed" "_law_mixed" (defArgs s__law_mixed) (defBody s__law_mixed) (defScope s__law_mixed) [] [] f fd ∧ mg "_law_mixed" = some (.ref f)
  d__law_grown : ∃ f fd, FunD K "_law_grown" "_law_grown" (defArgs s__law_grown) (defBody s__law_grown) (defScope s__law_grown) [] [] f fd ∧ mg "_law_grown" = some (.ref f)
  d__law_climb : ∃ f fd, FunD K "_law_climb" "_law_climb" (defArgs s__law_climb) (defBody s__law_climb) (defScope s__law_climb) [] [] f fd ∧ mg "_law_climb" = some (.ref f)
  d__law_standing : ∃ f fd, FunD K "_law_standing" "_law_standing" (defArgs s__law_standing) (defBody s__law_standing) (defScope s__law_standing) [] [] f fd ∧ mg "_law_standing" = some (.ref f)
  d__law_saying : ∃ f fd, FunD K "_law_saying" "_law_saying" (defArgs s__law_saying) (defBody s__law_saying) (defScope s__law_saying) [] [] f fd ∧ mg "_law_saying" = some (.ref f)
  d__law_sayings : ∃ f fd, FunD K "_law_sayings" "_law_sayings" (defArgs s__law_sayings) (defBody s__law_sayings) (defScope s__law_sayings) [] [] f fd ∧ mg "_law_sayings" = some (.ref f)
  d__law_world : ∃ f fd, FunD K "_law_world" "_law_world" (defArgs s__law_world) (defBody s__law_world) (defScope s__law_world) [] [] f fd ∧ mg "_law_world" = some (.ref f)
  d__law_parts : ∃ f fd, FunD K "_law_parts" "_law_parts" (defArgs s__law_parts) (defBody s__law_parts) (defScope s__law_parts) [] [] f fd ∧ mg "_law_parts" = some (.ref f)
  d__law_less : ∃ f fd, FunD K "_law_less" "_law_less" (defArgs s__law_less) (defBody s__law_less) (defScope s__law_less) [] [] f fd ∧ mg "_law_less" = some (.ref f)
  d__law_over : ∃ f fd, FunD K "_law_over" "_law_over" (defArgs s__law_over) (defBody s__law_over) (defScope s__law_over) [] [] f fd ∧ mg "_law_over" = some (.ref f)
  d__law_free : ∃ f fd, FunD K "_law_free" "_law_free" (defArgs s__law_free) (defBody s__law_free) (defScope s__law_free) [] [] f fd ∧ mg "_law_free" = some (.ref f)
  d__law_solved : ∃ f fd, FunD K "_law_solved" "_law_solved" (defArgs s__law_solved) (defBody s__law_solved) (defScope s__law_solved) [] [] f fd ∧ mg "_law_solved" = some (.ref f)
  d__law_placed : ∃ f fd, FunD K "_law_placed" "_law_placed" (defArgs s__law_placed) (defBody s__law_placed) (defScope s__law_placed) [] [] f fd ∧ mg "_law_placed" = some (.ref f)
  d__law_odd : ∃ f fd, FunD K "_law_odd" "_law_odd" (defArgs s__law_odd) (defBody s__law_odd) (defScope s__law_odd) [] [] f fd ∧ mg "_law_odd" = some (.ref f)
  d_room_way : ∃ f fd, FunD K "room_way" "room_way" (defArgs s_room_way) (defBody s_room_way) (defScope s_room_way) [] [] f fd ∧ mg "room_way" = some (.ref f)
  d_standing_in : ∃ f fd, FunD K "standing_in" "standing_in" (defArgs s_standing_in) (defBody s_standing_in) (defScope s_standing_in) [] [] f fd ∧ mg "standing_in" = some (.ref f)
  d_first_broken : ∃ f fd, FunD K "first_broken" "first_broken" (defArgs s_first_broken) (defBody s_first_broken) (defScope s_first_broken) [] [] f fd ∧ mg "first_broken" = some (.ref f)
  d_is_pair : ∃ f fd, FunD K "is_pair" "is_pair" (defArgs s_is_pair) (defBody s_is_pair) (defScope s_is_pair) [] [] f fd ∧ mg "is_pair" = some (.ref f)
  d_is_whole : ∃ f fd, FunD K "is_whole" "is_whole" (defArgs s_is_whole) (defBody s_is_whole) (defScope s_is_whole) [] [] f fd ∧ mg "is_whole" = some (.ref f)
  d_is_rooms : ∃ f fd, FunD K "is_rooms" "is_rooms" (defArgs s_is_rooms) (defBody s_is_rooms) (defScope s_is_rooms) [] [] f fd ∧ mg "is_rooms" = some (.ref f)
  d_all_standings : ∃ f fd, FunD K "all_standings" "all_standings" (defArgs s_all_standings) (defBody s_all_standings) (defScope s_all_standings) [] [] f fd ∧ mg "all_standings" = some (.ref f)
  d_is_standing : ∃ f fd, FunD K "is_standing" "is_standing" (defArgs s_is_standing) (defBody s_is_standing) (defScope s_is_standing) [] [] f fd ∧ mg "is_standing" = some (.ref f)
  d_is_lets : ∃ f fd, FunD K "is_lets" "is_lets" (defArgs s_is_lets) (defBody s_is_lets) (defScope s_is_lets) [] [] f fd ∧ mg "is_lets" = some (.ref f)
  d_is_thing : ∃ f fd, FunD K "is_thing" "is_thing" (defArgs s_is_thing) (defBody s_is_thing) (defScope s_is_thing) [] [] f fd ∧ mg "is_thing" = some (.ref f)
  d_says_right : ∃ f fd, FunD K "says_right" "says_right" (defArgs s_says_right) (defBody s_says_right) (defScope s_says_right) [] [] f fd ∧ mg "says_right" = some (.ref f)
  d_first_wrong : ∃ f fd, FunD K "first_wrong" "first_wrong" (defArgs s_first_wrong) (defBody s_first_wrong) (defScope s_first_wrong) [] [] f fd ∧ mg "first_wrong" = some (.ref f)
  d_is_book : ∃ f fd, FunD K "is_book" "is_book" (defArgs s_is_book) (defBody s_is_book) (defScope s_is_book) [] [] f fd ∧ mg "is_book" = some (.ref f)
  d_is_place : ∃ f fd, FunD K "is_place" "is_place" (defArgs s_is_place) (defBody s_is_place) (defScope s_is_place) [] [] f fd ∧ mg "is_place" = some (.ref f)
  d_first_bad : ∃ f fd, FunD K "first_bad" "first_bad" (defArgs s_first_bad) (defBody s_first_bad) (defScope s_first_bad) [] [] f fd ∧ mg "first_bad" = some (.ref f)
  d_lies_in_itself : ∃ f fd, FunD K "lies_in_itself" "lies_in_itself" (defArgs s_lies_in_itself) (defBody s_lies_in_itself) (defScope s_lies_in_itself) [] [] f fd ∧ mg "lies_in_itself" = some (.ref f)
  d_first_ring : ∃ f fd, FunD K "first_ring" "first_ring" (defArgs s_first_ring) (defBody s_first_ring) (defScope s_first_ring) [] [] f fd ∧ mg "first_ring" = some (.ref f)
  d_is_forest : ∃ f fd, FunD K "is_forest" "is_forest" (defArgs s_is_forest) (defBody s_is_forest) (defScope s_is_forest) [] [] f fd ∧ mg "is_forest" = some (.ref f)
  d_keeps : ∃ f fd, FunD K "keeps" "keeps" (defArgs s_keeps) (defBody s_keeps) (defScope s_keeps) [] [] f fd ∧ mg "keeps" = some (.ref f)
  d__law_turned : ∃ f fd, FunD K "_law_turned" "_law_turned" (defArgs s__law_turned) (defBody s__law_turned) (defScope s__law_turned) [] [] f fd ∧ mg "_law_turned" = some (.ref f)
  d__law_table : ∃ f fd, FunD K "_law_table" "_law_table" (defArgs s__law_table) (defBody s__law_table) (defScope s__law_table) [] [] f fd ∧ mg "_law_table" = some (.ref f)
  d__law_moved : ∃ f fd, FunD K "_law_moved" "_law_moved" (defArgs s__law_moved) (defBody s__law_moved) (defScope s__law_moved) [] [] f fd ∧ mg "_law_moved" = some (.ref f)
  d__law_number : ∃ f fd, FunD K "_law_number" "_law_number" (defArgs s__law_number) (defBody s__law_number) (defScope s__law_number) [] [] f fd ∧ mg "_law_number" = some (.ref f)
  d__law_is_forest : ∃ f fd, FunD K "_law_is_forest" "_law_is_forest" (defArgs s__law_is_forest) (defBody s__law_is_forest) (defScope s__law_is_forest) [] [] f fd ∧ mg "_law_is_forest" = some (.ref f)
  d__law_kept : ∃ f fd, FunD K "_law_kept" "_law_kept" (defArgs s__law_kept) (defBody s__law_kept) (defScope s__law_kept) [] [] f fd ∧ mg "_law_kept" = some (.ref f)
  d__law_no_book : ∃ f fd, FunD K "_law_no_book" "_law_no_book" (defArgs s__law_no_book) (defBody s__law_no_book) (defScope s__law_no_book) [] [] f fd ∧ mg "_law_no_book" = some (.ref f)
  d_law : ∃ f fd, FunD K "law" "law" (defArgs s_law) (defBody s_law) (defScope s_law) [] [] f fd ∧ mg "law" = some (.ref f)
section
variable {P : Program} {w : World} {K : PySem.W.Frag} {mg : Str → Option Value} {base : Heap}
theorem sc__law_pool : FnScope ["_law_script", "_law_k", "_law_cell", "_law_big", "_law_mixed_here"] ["_law_script", "_law_k"] (defScope s__law_pool) := ⟨rfl, rfl, rfl, by decide +kernel, rfl, by decide +kernel, by decide +kernel⟩
theorem fn__law_pool (F : Fx K mg) {f : Addr} {fd : FuncData} (D : FunD K "_law_pool" "_law_pool" (defArgs s__law_pool) (defBody s__law_pool) (defScope s__law_pool) [] [] f fd) : FnD P w K mg base 1 f fd ["_law_script", "_law_k"] Lib._law_pool := by
  have nd := sc__law_pool.nd
  refine fn_okK (N := ["_law_script", "_law_k", "_law_cell", "_law_big", "_law_mixed_here"]) (ps := ["_law_script", "_law_k"]) D sc__law_pool (fun T cdv A outer s H E hr => ?_)
  have hu : (cxOf (CX P w) P w K mg base ["_law_script", "_law_k", "_law_cell", "_law_big", "_law_mixed_here"] "_law_pool" (defScope s__law_pool) f cdv A outer s H E).A.units + 65 < cLine := hu_room hr
  have hx : Lets (cxOf (CX P w) P w K mg base ["_law_script", "_law_k", "_law_cell", "_law_big", "_law_mixed_here"] "_law_pool" (defScope s__law_pool) f cdv A outer s H E) E := lets_def (takes_of rfl rfl rfl rfl)
  have ho : PassesOwn (model P w) (cxOf (CX P w) P w K mg base ["_law_script", "_law_k", "_law_cell", "_law_big", "_law_mixed_here"] "_law_pool" (defScope s__law_pool) f cdv A outer s H E).A (cxOf (CX P w) P w K mg base ["_law_script", "_law_k", "_law_cell", "_law_big", "_law_mixed_here"] "_law_pool" (defScope s__law_pool) f cdv A outer s H E).env (cxOf (CX P w) P w K mg base ["_law_script", "_law_k", "_law_cell", "_law_big", "_law_mixed_here"] "_law_pool" (defScope s__law_pool) f cdv A outer s H E).xe := passes_of rfl
  exact (ess_cons (es_set 2 nd ev_int)
  (ess_cons (es_if (eb_lt (ev_name 1) (ev_len rfl F.n_len (ea_cons (ev_name 0) ea_nil))) (ess_one (es_set 2 nd (ev_ix hu (ev_name 0) (ev_name 1)))) (ess_one (es_if (eb_ne hu (ev_name 0) (ev_lst ea_nil)) (ess_one (es_set 2 nd (ev_ix hu (ev_name 0) ev_int))) ess_nil)))
  (ess_cons (es_set 3 nd (ev_max rfl rfl F.n_max (ea_cons (ev_intC rfl F.n_int (ea_cons (ev_name 2) ea_nil)) (ea_cons (ev_intC rfl F.n_int (ea_cons (ev_sub (ev_neg ev_int) (ev_name 2)) ea_nil)) ea_nil))))
  (ess_cons (es_set 4 nd (ev_mod (ev_intC rfl F.n_int (ea_cons (ev_mul (ev_add (ev_add (ev_add (ev_mod (ev_intC rfl F.n_int (ea_cons (ev_name 3) ea_nil)) ev_int) (ev_mul (ev_mul ev_int (ev_name 1)) (ev_name 1))) (ev_mul ev_int (ev_name 1))) ev_int) ev_int) ea_nil)) ev_int))
  (ess_one (es_ret (ev_lstR (ea_cons (ev_mul (ev_name 3) (ev_intC rfl F.n_int (ea_cons (ev_and (ev_ge (ev_name 3) (ev_pow ev_int ev_int)) (ev_one (ev_lt (ev_name 1) (ev_len rfl F.n_len (ea_cons (ev_name 0) ea_nil))))) ea_nil))) (ea_cons (ev_name 4) ea_nil)))))))))
theorem ok__law_pool (F : Fx K mg) : Cal P w K mg base 1 "_law_pool" ["_law_script", "_law_k"] Lib._law_pool := by
  obtain ⟨f, fd, D, hm⟩ := F.d__law_pool
  exact ⟨f, fd, fn__law_pool F D, hm, D.kp, D.bindsN fun _ _ _ _ _ _ us hl => match us, hl with | [_, _], _ => rfl⟩

theorem sc__law_take : FnScope ["_law_source", "_law_top", "_law_drawn"] ["_law_source", "_law_top"] (defScope s__law_take) := ⟨rfl, rfl, rfl, by decide +kernel, rfl, by decide +kernel, by decide +kernel⟩
theorem fn__law_take (F : Fx K mg) {f : Addr} {fd : FuncData} (D : FunD K "_law_take" "_law_take" (defArgs s__law_take) (defBody s__law_take) (defScope s__law_take) [] [] f fd) : FnD P w K mg base 1 f fd ["_law_source", "_law_top"] Lib._law_take := by
  have nd := sc__law_take.nd
  refine fn_ok (N := ["_law_source", "_law_top", "_law_drawn"]) (ps := ["_law_source", "_law_top"]) D sc__law_take (fun T cdv A outer s H E hr => ?_)
  have hu : (cxOf (CX P w) P w K mg base ["_law_source", "_law_top", "_law_drawn"] "_law_take" (defScope s__law_take) f cdv A outer s H E).A.units + 65 < cLine := hu_room hr
  have hx : Lets (cxOf (CX P w) P w K mg base ["_law_source", "_law_top", "_law_drawn"] "_law_take" (defScope s__law_take) f cdv A outer s H E) E := lets_def (takes_of rfl rfl rfl rfl)
  have ho : PassesOwn (model P w) (cxOf (CX P w) P w K mg base ["_law_source", "_law_top", "_law_drawn"] "_law_take" (defScope s__law_take) f cdv A outer s H E).A (cxOf (CX P w) P w K mg base ["_law_source", "_law_top", "_law_drawn"] "_law_take" (defScope s__law_take) f cdv A outer s H E).env (cxOf (CX P w) P w K mg base ["_law_source", "_law_top", "_law_drawn"] "_law_take" (defScope s__law_take) f cdv A outer s H E).xe := passes_of rfl
  exact (ess_cons (es_if (eb_gt (ev_ix hu (ev_name 0) ev_int) ev_int) (ess_cons (es_set 2 nd (ev_mod (ev_intC rfl F.n_int (ea_cons (ev_ix hu (ev_name 0) ev_int) ea_nil)) (ev_name 1)))
  (ess_cons (es_asg (ev_div (ev_ix hu (ev_name 0) ev_int) (ev_name 1)) (eg_sub hu (ev_name 0) ev_int))
  (ess_one (es_ret (ev_name 2))))) ess_nil)
  (ess_cons (es_asg (ev_mod (ev_intC rfl F.n_int (ea_cons (ev_add (ev_mul (ev_ix hu (ev_name 0) ev_int) ev_int) ev_int) ea_nil)) ev_int) (eg_sub hu (ev_name 0) ev_int))
  (ess_one (es_ret (ev_mod (ev_intC rfl F.n_int (ea_cons (ev_div (ev_mod (ev_intC rfl F.n_int (ea_cons (ev_mul (ev_ix hu (ev_name 0) ev_int) (ev_ix hu (ev_name 0) ev_int)) ea_nil)) ev_int) ev_int) ea_nil)) (ev_name 1))))))
theorem ok__law_take (F : Fx K mg) : Cal P w K mg base 1 "_law_take" ["_law_source", "_law_top"] Lib._law_take := by
  obtain ⟨f, fd, D, hm⟩ := F.d__law_take
  exact ⟨f, fd, fn__law_take F D, hm, D.kp, D.bindsN fun _ _ _ _ _ _ us hl => match us, hl with | [_, _], _ => rfl⟩

theorem sc__law_one : FnScope ["_law_source", "_law_things"] ["_law_source", "_law_things"] (defScope s__law_one) := ⟨rfl, rfl, rfl, by decide +kernel, rfl, by decide +kernel, by decide +kernel⟩
theorem fn__law_one (F : Fx K mg) {f : Addr} {fd : FuncData} (D : FunD K "_law_one" "_law_one" (defArgs s__law_one) (defBody s__law_one) (defScope s__law_one) [] [] f fd) : FnD P w K mg base 2 f fd ["_law_source", "_law_things"] Lib._law_one := by
  have nd := sc__law_one.nd
  refine fn_ok (N := ["_law_source", "_law_things"]) (ps := ["_law_source", "_law_things"]) D sc__law_one (fun T cdv A outer s H E hr => ?_)
  have hu : (cxOf (CX P w) P w K mg base ["_law_source", "_law_things"] "_law_one" (defScope s__law_one) f cdv A outer s H E).A.units + 65 < cLine := hu_room hr
  have hx : Lets (cxOf (CX P w) P w K mg base ["_law_source", "_law_things"] "_law_one" (defScope s__law_one) f cdv A outer s H E) E := lets_def (takes_of rfl rfl rfl rfl)
  have ho : PassesOwn (model P w) (cxOf (CX P w) P w K mg base ["_law_source", "_law_things"] "_law_one" (defScope s__law_one) f cdv A outer s H E).A (cxOf (CX P w) P w K mg base ["_law_source", "_law_things"] "_law_one" (defScope s__law_one) f cdv A outer s H E).env (cxOf (CX P w) P w K mg base ["_law_source", "_law_things"] "_law_one" (defScope s__law_one) f cdv A outer s H E).xe := passes_of rfl
  exact (ess_one (es_ret (ev_ix hu (ev_name 1) (ev_cal (ok__law_take F) (hr.mono (by decide)) rfl hx (ea_cons (ev_name 0) (ea_cons (ev_len rfl F.n_len (ea_cons (ev_name 1) ea_nil)) ea_nil))))))
theorem ok__law_one (F : Fx K mg) : Cal P w K mg base 2 "_law_one" ["_law_source", "_law_things"] Lib._law_one := by
  obtain ⟨f, fd, D, hm⟩ := F.d__law_one
  exact ⟨f, fd, fn__law_one F D, hm, D.kp, D.bindsN fun _ _ _ _ _ _ us hl => match us, hl with | [_, _], _ => rfl⟩

theorem sc__law_rooms : FnScope ["_law_source", "_law_many", "_law_x"] ["_law_source", "_law_many"] (defScope s__law_rooms) := ⟨rfl, rfl, rfl, by decide +kernel, rfl, by decide +kernel, by decide +kernel⟩
theorem fn__law_rooms (F : Fx K mg) {f : Addr} {fd : FuncData} (D : FunD K "_law_rooms" "_law_rooms" (defArgs s__law_rooms) (defBody s__law_rooms) (defScope s__law_rooms) [] [] f fd) : FnD P w K mg base 3 f fd ["_law_source", "_law_many"] Lib._law_rooms := by
  have nd := sc__law_rooms.nd
  refine fn_ok (N := ["_law_source", "_law_many", "_law_x"]) (ps := ["_law_source", "_law_many"]) D sc__law_rooms (fun T cdv A outer s H E hr => ?_)
  have hu : (cxOf (CX P w) P w K mg base ["_law_source", "_law_many", "_law_x"] "_law_rooms" (defScope s__law_rooms) f cdv A outer s H E).A.units + 65 < cLine := hu_room hr
  have hx : Lets (cxOf (CX P w) P w K mg base ["_law_source", "_law_many", "_law_x"] "_law_rooms" (defScope s__law_rooms) f cdv A outer s H E) E := lets_def (takes_of rfl rfl rfl rfl)
  have ho : PassesOwn (model P w) (cxOf (CX P w) P w K mg base ["_law_source", "_law_many", "_law_x"] "_law_rooms" (defScope s__law_rooms) f cdv A outer s H E).A (cxOf (CX P w) P w K mg base ["_law_source", "_law_many", "_law_x"] "_law_rooms" (defScope s__law_rooms) f cdv A outer s H E).env (cxOf (CX P w) P w K mg base ["_law_source", "_law_many", "_law_x"] "_law_rooms" (defScope s__law_rooms) f cdv A outer s H E).xe := passes_of rfl
  exact (ess_one (es_ret (ev_tupC rfl F.n_tuple (ea_cons (ev_lc (own := [(("_law_x" : Str), 2)]) mLst_end rfl nd (ei_rg1 rfl F.n_range (ev_name 1)) (blkOk_by (by first | decide +kernel | rfl)) (fun D s H C cl fp => (egw_name 2 nd)) (fun D s H C cl fp => ets_nil) (fun D s H C cl fp => (ev_cal (ok__law_one F) (hr.mono (by decide)) rfl lets_never (ea_cons (ev_name 0) (ea_cons (ev_lst (ea_cons ev_int (ea_cons ev_int (ea_cons ev_int (ea_cons ev_int (ea_cons ev_int (ea_cons ev_int (ea_cons ev_int (ea_cons ev_int ea_nil))))))))) ea_nil))))) ea_nil))))
theorem ok__law_rooms (F : Fx K mg) : Cal P w K mg base 3 "_law_rooms" ["_law_source", "_law_many"] Lib._law_rooms := by
  obtain ⟨f, fd, D, hm⟩ := F.d__law_rooms
  exact ⟨f, fd, fn__law_rooms F D, hm, D.kp, D.bindsN fun _ _ _ _ _ _ us hl => match us, hl with | [_, _], _ => rfl⟩

theorem sc__law_two : FnScope ["_law_source", "_law_rooms_here", "_law_x"] ["_law_source", "_law_rooms_here"] (defScope s__law_two) := ⟨rfl, rfl, rfl, by decide +kernel, rfl, by decide +kernel, by decide +kernel⟩
theorem fn__law_two (F : Fx K mg) {f : Addr} {fd : FuncData} (D : FunD K "_law_two" "_law_two" (defArgs s__law_two) (defBody s__law_two) (defScope s__law_two) [] [] f fd) : FnD P w K mg base 2 f fd ["_law_source", "_law_rooms_here"] Lib._law_two := by
  have nd := sc__law_two.nd
  refine fn_ok (N := ["_law_source", "_law_rooms_here", "_law_x"]) (ps := ["_law_source", "_law_rooms_here"]) D sc__law_two (fun T cdv A outer s H E hr => ?_)
  have hu : (cxOf (CX P w) P w K mg base ["_law_source", "_law_rooms_here", "_law_x"] "_law_two" (defScope s__law_two) f cdv A outer s H E).A.units + 65 < cLine := hu_room hr
  have hx : Lets (cxOf (CX P w) P w K mg base ["_law_source", "_law_rooms_here", "_law_x"] "_law_two" (defScope s__law_two) f cdv A outer s H E) E := lets_def (takes_of rfl rfl rfl rfl)
  have ho : PassesOwn (model P w) (cxOf (CX P w) P w K mg base ["_law_source", "_law_rooms_here", "_law_x"] "_law_two" (defScope s__law_two) f cdv A outer s H E).A (cxOf (CX P w) P w K mg base ["_law_source", "_law_rooms_here", "_law_x"] "_law_two" (defScope s__law_two) f cdv A outer s H E).env (cxOf (CX P w) P w K mg base ["_law_source", "_law_rooms_here", "_law_x"] "_law_two" (defScope s__law_two) f cdv A outer s H E).xe := passes_of rfl
  exact (ess_cons (es_set 2 nd (ev_cal (ok__law_take F) (hr.mono (by decide)) rfl hx (ea_cons (ev_name 0) (ea_cons (ev_len rfl F.n_len (ea_cons (ev_name 1) ea_nil)) ea_nil))))
  (ess_one (es_ret (ev_tup (ea_cons (ev_name 2) (ea_cons (ev_mod (ev_intC rfl F.n_int (ea_cons (ev_add (ev_add (ev_name 2) ev_int) (ev_cal (ok__law_take F) (hr.mono (by decide)) rfl hx (ea_cons (ev_name 0) (ea_cons (ev_sub (ev_len rfl F.n_len (ea_cons (ev_name 1) ea_nil)) ev_int) ea_nil)))) ea_nil)) (ev_len rfl F.n_len (ea_cons (ev_name 1) ea_nil))) ea_nil))))))
theorem ok__law_two (F : Fx K mg) : Cal P w K mg base 2 "_law_two" ["_law_source", "_law_rooms_here"] Lib._law_two := by
  obtain ⟨f, fd, D, hm⟩ := F.d__law_two
  exact ⟨f, fd, fn__law_two F D, hm, D.kp, D.bindsN fun _ _ _ _ _ _ us hl => match us, hl with | [_, _], _ => rfl⟩

theorem sc__law_every : FnScope ["_law_rooms_here", "_law_x", "_law_y", "_law_inner", "_law_outer", "_law_j", "_law_i"] ["_law_rooms_here", "_law_x", "_law_y"] (defScope s__law_every) := ⟨rfl, rfl, rfl, by decide +kernel, rfl, by decide +kernel, by decide +kernel⟩
theorem fn__law_every (F : Fx K mg) {f : Addr} {fd : FuncData} (D : FunD K "_law_every" "_law_every" (defArgs s__law_every) (defBody s__law_every) (defScope s__law_every) [] [] f fd) : FnD P w K mg base 1 f fd ["_law_rooms_here", "_law_x", "_law_y"] Lib._law_every := by
  have nd := sc__law_every.nd
  refine fn_ok (N := ["_law_rooms_here", "_law_x", "_law_y", "_law_inner", "_law_outer", "_law_j", "_law_i"]) (ps := ["_law_rooms_here", "_law_x", "_law_y"]) D sc__law_every (fun T cdv A outer s H E hr => ?_)
  have hu : (cxOf (CX P w) P w K mg base ["_law_rooms_here", "_law_x", "_law_y", "_law_inner", "_law_outer", "_law_j", "_law_i"] "_law_every" (defScope s__law_every) f cdv A outer s H E).A.units + 65 < cLine := hu_room hr
  have hx : Lets (cxOf (CX P w) P w K mg base ["_law_rooms_here", "_law_x", "_law_y", "_law_inner", "_law_outer", "_law_j", "_law_i"] "_law_every" (defScope s__law_every) f cdv A outer s H E) E := lets_def (takes_of rfl rfl rfl rfl)
  have ho : PassesOwn (model P w) (cxOf (CX P w) P w K mg base ["_law_rooms_here", "_law_x", "_law_y", "_law_inner", "_law_outer", "_law_j", "_law_i"] "_law_every" (defScope s__law_every) f cdv A outer s H E).A (cxOf (CX P w) P w K mg base ["_law_rooms_here", "_law_x", "_law_y", "_law_inner", "_law_outer", "_law_j", "_law_i"] "_law_every" (defScope s__law_every) f cdv A outer s H E).env (cxOf (CX P w) P w K mg base ["_law_rooms_here", "_law_x", "_law_y", "_law_inner", "_law_outer", "_law_j", "_law_i"] "_law_every" (defScope s__law_every) f cdv A outer s H E).xe := passes_of rfl
  exact (ess_cons (es_par 3 4 rfl nd (ea_cons (ev_lc (own := [(("_law_j" : Str), 5)]) mLst_end rfl nd (ei_rg1 rfl F.n_range (ev_ix hu (ev_name 0) (ev_name 2))) (blkOk_by (by first | decide +kernel | rfl)) (fun D s H C cl fp => (egw_name 5 nd)) (fun D s H C cl fp => ets_nil) (fun D s H C cl fp => (ev_tup (ea_cons ev_str (ea_cons (ev_name 5) ea_nil))))) (ea_cons (ev_lc (own := [(("_law_i" : Str), 6)]) mLst_end rfl nd (ei_rg1 rfl F.n_range (ev_ix hu (ev_name 0) (ev_name 1))) (blkOk_by (by first | decide +kernel | rfl)) (fun D s H C cl fp => (egw_name 6 nd)) (fun D s H C cl fp => ets_nil) (fun D s H C cl fp => (ev_tup (ea_cons ev_str (ea_cons (ev_name 6) ea_nil))))) ea_nil)))
  (ess_one (es_ret (ev_add (ev_add (ev_lst (ea_cons (ev_tup (ea_cons ev_str (ea_cons ev_int ea_nil))) ea_nil)) (ev_name 3)) (ev_name 4)))))
theorem ok__law_every (F : Fx K mg) : Cal P w K mg base 1 "_law_every" ["_law_rooms_here", "_law_x", "_law_y"] Lib._law_every := by
  obtain ⟨f, fd, D, hm⟩ := F.d__law_every
  exact ⟨f, fd, fn__law_every F D, hm, D.kp, D.bindsN fun _ _ _ _ _ _ us hl => match us, hl with | [_, _, _], _ => rfl⟩

theorem sc__law_loose : FnScope ["_law_source", "_law_rooms_here", "_law_many", "_law_apart", "_law_other", "_law_found", "_law_turn", "_law_lot", "_law_standing_here", "_law_x", "_law_y"] ["_law_source", "_law_rooms_here", "_law_many", "_law_apart", "_law_other"] (defScope s__law_loose) := ⟨rfl, rfl, rfl, by decide +kernel, rfl, by decide +kernel, by decide +kernel⟩
theorem fn__law_loose (F : Fx K mg) {f : Addr} {fd : FuncData} (D : FunD K "_law_loose" "_law_loose" (defArgs s__law_loose) (defBody s__law_loose) (defScope s__law_loose) [] [] f fd) : FnD P w K mg base 3 f fd ["_law_source", "_law_rooms_here", "_law_many", "_law_apart", "_law_other"] d__law_loose := by
  have nd := sc__law_loose.nd
  refine fn_ok (N := ["_law_source", "_law_rooms_here", "_law_many", "_law_apart", "_law_other", "_law_found", "_law_turn", "_law_lot", "_law_standing_here", "_law_x", "_law_y"]) (ps := ["_law_source", "_law_rooms_here", "_law_many", "_law_apart", "_law_other"]) D sc__law_loose (fun T cdv A outer s H E hr => ?_)
  have hu : (cxOf (CX P w) P w K mg base ["_law_source", "_law_rooms_here", "_law_many", "_law_apart", "_law_other", "_law_found", "_law_turn", "_law_lot", "_law_standing_here", "_law_x", "_law_y"] "_law_loose" (defScope s__law_loose) f cdv A outer s H E).A.units + 65 < cLine := hu_room hr
  have hx : Lets (cxOf (CX P w) P w K mg base ["_law_source", "_law_rooms_here", "_law_many", "_law_apart", "_law_other", "_law_found", "_law_turn", "_law_lot", "_law_standing_here", "_law_x", "_law_y"] "_law_loose" (defScope s__law_loose) f cdv A outer s H E) E := lets_def (takes_of rfl rfl rfl rfl)
  have ho : PassesOwn (model P w) (cxOf (CX P w) P w K mg base ["_law_source", "_law_rooms_here", "_law_many", "_law_apart", "_law_other", "_law_found", "_law_turn", "_law_lot", "_law_standing_here", "_law_x", "_law_y"] "_law_loose" (defScope s__law_loose) f cdv A outer s H E).A (cxOf (CX P w) P w K mg base ["_law_source", "_law_rooms_here", "_law_many", "_law_apart", "_law_other", "_law_found", "_law_turn", "_law_lot", "_law_standing_here", "_law_x", "_law_y"] "_law_loose" (defScope s__law_loose) f cdv A outer s H E).env (cxOf (CX P w) P w K mg base ["_law_source", "_law_rooms_here", "_law_many", "_law_apart", "_law_other", "_law_found", "_law_turn", "_law_lot", "_law_standing_here", "_law_x", "_law_y"] "_law_loose" (defScope s__law_loose) f cdv A outer s H E).xe := passes_of rfl
  exact (ess_cons (es_set 5 nd (ev_lstR ea_nil))
  (ess_cons (es_for [6, 9, 10, 7, 8] ho rfl (ei_rg1 rfl F.n_range (ev_cal (ok__law_take F) (hr.mono (by decide)) rfl hx (ea_cons (ev_name 0) (ea_cons (ev_add (ev_name 2) ev_int) ea_nil)))) (eg_name 6 nd) (ess_cons (es_asg (ev_cal (ok__law_two F) (hr.mono (by decide)) rfl hx (ea_cons (ev_name 0) (ea_cons (ev_name 1) ea_nil))) (eg_tup rfl (egs_cons (eg_name 9 nd) (egs_cons (eg_name 10 nd) egs_nil))))
  (ess_cons (es_set 7 nd (ev_lstR ea_nil))
  (ess_cons (es_for [8] ho rfl (ei_seq (ev_cal (ok__law_every F) (hr.mono (by decide)) rfl hx (ea_cons (ev_name 1) (ea_cons (ev_name 9) (ea_cons (ev_name 10) ea_nil))))) (eg_name 8 nd) (ess_one (es_if (eb_w (ew_or (eb_w (ew_and (eb_eq hu (ev_ix hu (ev_name 8) ev_int) ev_str) (ew_and1 (eb_eq hu (ev_cal (ok__law_take F) (hr.mono (by decide)) rfl hx (ea_cons (ev_name 0) (ea_cons (ev_name 3) ea_nil))) ev_int)))) (ew_or1 (eb_w (ew_and (eb_ne hu (ev_ix hu (ev_name 8) ev_int) ev_str) (ew_and1 (eb_gt (ev_cal (ok__law_take F) (hr.mono (by decide)) rfl hx (ea_cons (ev_name 0) (ea_cons (ev_name 4) ea_nil))) ev_int))))))) (ess_one (es_expr (ev_append (ev_name 7) (ev_name 8)))) ess_nil)))
  (ess_one (es_expr (ev_append (ev_name 5) (ev_tup (ea_cons (ev_name 9) (ea_cons (ev_name 10) (ea_cons (ev_tupC rfl F.n_tuple (ea_cons (ev_name 7) ea_nil)) ea_nil)))))))))))
  (ess_one (es_ret (ev_name 5)))))
theorem ok__law_loose (F : Fx K mg) : Cal P w K mg base 3 "_law_loose" ["_law_source", "_law_rooms_here", "_law_many", "_law_apart", "_law_other"] d__law_loose := by
  obtain ⟨f, fd, D, hm⟩ := F.d__law_loose
  exact ⟨f, fd, fn__law_loose F D, hm, D.kp, D.bindsN fun _ _ _ _ _ _ us hl => match us, hl with | [_, _, _, _, _], _ => rfl⟩

theorem sc__law_mixed : FnScope ["_law_source", "_law_things", "_law_turn", "_law_left", "_law_found"] ["_law_source", "_law_things"] (defScope s__law_mixed) := ⟨rfl, rfl, rfl, by decide +kernel, rfl, by decide +kernel, by decide +kernel⟩
theorem fn__law_mixed (F : Fx K mg) {f : Addr} {fd : FuncData} (D : FunD K "_law_mixed" "_law_mixed" (defArgs s__law_mixed) (defBody s__law_mixed) (defScope s__law_mixed) [] [] f fd) : FnD P w K mg base 2 f fd ["_law_source", "_law_things"] Lib._law_mixed := by
  have nd := sc__law_mixed.nd
  refine fn_ok (N := ["_law_source", "_law_things", "_law_turn", "_law_left", "_law_found"]) (ps := ["_law_source", "_law_things"]) D sc__law_mixed (fun T cdv A outer s H E hr => ?_)
  have hu : (cxOf (CX P w) P w K mg base ["_law_source", "_law_things", "_law_turn", "_law_left", "_law_found"] "_law_mixed" (defScope s__law_mixed) f cdv A outer s H E).A.units + 65 < cLine := hu_room hr
  have hx : Lets (cxOf (CX P w) P w K mg base ["_law_source", "_law_things", "_law_turn", "_law_left", "_law_found"] "_law_mixed" (defScope s__law_mixed) f cdv A outer s H E) E := lets_def (takes_of rfl rfl rfl rfl)
  have ho : PassesOwn (model P w) (cxOf (CX P w) P w K mg base ["_law_source", "_law_things", "_law_turn", "_law_left", "_law_found"] "_law_mixed" (defScope s__law_mixed) f cdv A outer s H E).A (cxOf (CX P w) P w K mg base ["_law_source", "_law_things", "_law_turn", "_law_left", "_law_found"] "_law_mixed" (defScope s__law_mixed) f cdv A outer s H E).env (cxOf (CX P w) P w K mg base ["_law_source", "_law_things", "_law_turn", "_law_left", "_law_found"] "_law_mixed" (defScope s__law_mixed) f cdv A outer s H E).xe := passes_of rfl
  exact (ess_cons (es_par 3 4 rfl nd (ea_cons (ev_lstCR rfl F.n_list (ea_cons (ev_name 1) ea_nil)) (ea_cons (ev_lstR ea_nil) ea_nil)))
  (ess_cons (es_for [2] ho rfl (ei_rg1 rfl F.n_range (ev_len rfl F.n_len (ea_cons (ev_name 1) ea_nil))) (eg_name 2 nd) (ess_one (es_expr (ev_append (ev_name 4) (ev_pop1 (ev_name 3) (ev_cal (ok__law_take F) (hr.mono (by decide)) rfl hx (ea_cons (ev_name 0) (ea_cons (ev_len rfl F.n_len (ea_cons (ev_name 3) ea_nil)) ea_nil))))))))
  (ess_one (es_ret (ev_name 4)))))
theorem ok__law_mixed (F : Fx K mg) : Cal P w K mg base 2 "_law_mixed" ["_law_source", "_law_things"] Lib._law_mixed := by
  obtain ⟨f, fd, D, hm⟩ := F.d__law_mixed
  exact ⟨f, fd, fn__law_mixed F D, hm, D.kp, D.bindsN fun _ _ _ _ _ _ us hl => match us, hl with | [_, _], _ => rfl⟩

theorem sc__law_grown : FnScope ["_law_source", "_law_rooms_here", "_law_order", "_law_places", "_law_at", "_law_some", "_law_x", "_law_holder", "_law_y"] ["_law_source", "_law_rooms_here"] (defScope s__law_grown) := ⟨rfl, rfl, rfl, by decide +kernel, rfl, by decide +kernel, by decide +kernel⟩
theorem fn__law_grown (F : Fx K mg) {f : Addr} {fd : FuncData} (D : FunD K "_law_grown" "_law_grown" (defArgs s__law_grown) (defBody s__law_grown) (defScope s__law_grown) [] [] f fd) : FnD P w K mg base 3 f fd ["_law_source", "_law_rooms_here"] Lib._law_grown := by
  have nd := sc__law_grown.nd
  refine fn_ok (N := ["_law_source", "_law_rooms_here", "_law_order", "_law_places", "_law_at", "_law_some", "_law_x", "_law_holder", "_law_y"]) (ps := ["_law_source", "_law_rooms_here"]) D sc__law_grown (fun T cdv A outer s H E hr => ?_)
  have hu : (cxOf (CX P w) P w K mg base ["_law_source", "_law_rooms_here", "_law_order", "_law_places", "_law_at", "_law_some", "_law_x", "_law_holder", "_law_y"] "_law_grown" (defScope s__law_grown) f cdv A outer s H E).A.units + 65 < cLine := hu_room hr
  have hx : Lets (cxOf (CX P w) P w K mg base ["_law_source", "_law_rooms_here", "_law_order", "_law_places", "_law_at", "_law_some", "_law_x", "_law_holder", "_law_y"] "_law_grown" (defScope s__law_grown) f cdv A outer s H E) E := lets_def (takes_of rfl rfl rfl rfl)
  have ho : PassesOwn (model P w) (cxOf (CX P w) P w K mg base ["_law_source", "_law_rooms_here", "_law_order", "_law_places", "_law_at", "_law_some", "_law_x", "_law_holder", "_law_y"] "_law_grown" (defScope s__law_grown) f cdv A outer s H E).A (cxOf (CX P w) P w K mg base ["_law_source", "_law_rooms_here", "_law_order", "_law_places", "_law_at", "_law_some", "_law_x", "_law_holder", "_law_y"] "_law_grown" (defScope s__law_grown) f cdv A outer s H E).env (cxOf (CX P w) P w K mg base ["_law_source", "_law_rooms_here", "_law_order", "_law_places", "_law_at", "_law_some", "_law_x", "_law_holder", "_law_y"] "_law_grown" (defScope s__law_grown) f cdv A outer s H E).xe := passes_of rfl
  exact (ess_cons (es_set 2 nd (ev_cal (ok__law_mixed F) (hr.mono (by decide)) rfl hx (ea_cons (ev_name 0) (ea_cons (ev_lc (own := [(("_law_x" : Str), 6)]) mLst_end rfl nd (ei_rg1 rfl F.n_range (ev_len rfl F.n_len (ea_cons (ev_name 1) ea_nil))) (blkOk_by (by first | decide +kernel | rfl)) (fun D s H C cl fp => (egw_name 6 nd)) (fun D s H C cl fp => ets_nil) (fun D s H C cl fp => (ev_name 6))) ea_nil))))
  (ess_cons (by first | exact (es_setLc (own := [(("_law_x" : Str), 6)]) mLstR_end rfl nd rfl rfl (sw_true rfl rfl rfl (by decide +kernel)) (ei_rg1 rfl F.n_range (ev_len rfl F.n_len (ea_cons (ev_name 1) ea_nil))) (blkOk_by (by first | decide +kernel | rfl)) (fun D s H C cl fp => (egw_name 6 nd)) (fun D s H C cl fp => ets_nil) (fun D s H C cl fp => ev_non)) | exact (es_set 3 nd (ev_lc (own := [(("_law_x" : Str), 6)]) mLstR_end rfl nd (ei_rg1 rfl F.n_range (ev_len rfl F.n_len (ea_cons (ev_name 1) ea_nil))) (blkOk_by (by first | decide +kernel | rfl)) (fun D s H C cl fp => (egw_name 6 nd)) (fun D s H C cl fp => ets_nil) (fun D s H C cl fp => ev_non))))
  (ess_cons (es_for [4, 5, 7] ho rfl (ei_rg1 rfl F.n_range (ev_len rfl F.n_len (ea_cons (ev_name 2) ea_nil))) (eg_name 4 nd) (ess_cons (by first | exact (es_setLc (own := [(("_law_y" : Str), 8)]) mLst_end rfl nd rfl rfl (sw_true rfl rfl rfl (by decide +kernel)) (ei_seq (ev_sl (ev_name 2) eo_none (eo_some (ev_name 4)))) (blkOk_by (by first | decide +kernel | rfl)) (fun D s H C cl fp => (egw_name 8 nd)) (fun D s H C cl fp => (ets_one (eb_gt (ev_ix hu (ev_name 1) (ev_name 8)) ev_int))) (fun D s H C cl fp => (ev_name 8))) | exact (es_set 5 nd (ev_lc (own := [(("_law_y" : Str), 8)]) mLst_end rfl nd (ei_seq (ev_sl (ev_name 2) eo_none (eo_some (ev_name 4)))) (blkOk_by (by first | decide +kernel | rfl)) (fun D s H C cl fp => (egw_name 8 nd)) (fun D s H C cl fp => (ets_one (eb_gt (ev_ix hu (ev_name 1) (ev_name 8)) ev_int))) (fun D s H C cl fp => (ev_name 8)))))
  (ess_one (es_if (eb_w (ew_and (eb_ne hu (ev_name 5) (ev_lst ea_nil)) (ew_and1 (eb_gt (ev_cal (ok__law_take F) (hr.mono (by decide)) rfl hx (ea_cons (ev_name 0) (ea_cons ev_int ea_nil))) ev_int)))) (ess_cons (es_set 7 nd (ev_cal (ok__law_one F) (hr.mono (by decide)) rfl hx (ea_cons (ev_name 0) (ea_cons (ev_name 5) ea_nil))))
  (ess_one (es_asg (ev_tup (ea_cons (ev_name 7) (ea_cons (ev_cal (ok__law_take F) (hr.mono (by decide)) rfl hx (ea_cons (ev_name 0) (ea_cons (ev_ix hu (ev_name 1) (ev_name 7)) ea_nil))) ea_nil))) (eg_sub hu (ev_name 3) (ev_ix hu (ev_name 2) (ev_name 4)))))) ess_nil))))
  (ess_one (es_ret (ev_tupC rfl F.n_tuple (ea_cons (ev_name 3) ea_nil)))))))
theorem ok__law_grown (F : Fx K mg) : Cal P w K mg base 3 "_law_grown" ["_law_source", "_law_rooms_here"] Lib._law_grown := by
  obtain ⟨f, fd, D, hm⟩ := F.d__law_grown
  exact ⟨f, fd, fn__law_grown F D, hm, D.kp, D.bindsN fun _ _ _ _ _ _ us hl => match us, hl with | [_, _], _ => rfl⟩

theorem sc__law_climb : FnScope ["_law_forest", "_law_x", "_law_turn", "_law_found", "_law_here"] ["_law_forest", "_law_x"] (defScope s__law_climb) := ⟨rfl, rfl, rfl, by decide +kernel, rfl, by decide +kernel, by decide +kernel⟩
theorem fn__law_climb (F : Fx K mg) {f : Addr} {fd : FuncData} (D : FunD K "_law_climb" "_law_climb" (defArgs s__law_climb) (defBody s__law_climb) (defScope s__law_climb) [] [] f fd) : FnD P w K mg base 1 f fd ["_law_forest", "_law_x"] Lib._law_climb := by
  have nd := sc__law_climb.nd
  refine fn_ok (N := ["_law_forest", "_law_x", "_law_turn", "_law_found", "_law_here"]) (ps := ["_law_forest", "_law_x"]) D sc__law_climb (fun T cdv A outer s H E hr => ?_)
  have hu : (cxOf (CX P w) P w K mg base ["_law_forest", "_law_x", "_law_turn", "_law_found", "_law_here"] "_law_climb" (defScope s__law_climb) f cdv A outer s H E).A.units + 65 < cLine := hu_room hr
  have hx : Lets (cxOf (CX P w) P w K mg base ["_law_forest", "_law_x", "_law_turn", "_law_found", "_law_here"] "_law_climb" (defScope s__law_climb) f cdv A outer s H E) E := lets_def (takes_of rfl rfl rfl rfl)
  have ho : PassesOwn (model P w) (cxOf (CX P w) P w K mg base ["_law_forest", "_law_x", "_law_turn", "_law_found", "_law_here"] "_law_climb" (defScope s__law_climb) f cdv A outer s H E).A (cxOf (CX P w) P w K mg base ["_law_forest", "_law_x", "_law_turn", "_law_found", "_law_here"] "_law_climb" (defScope s__law_climb) f cdv A outer s H E).env (cxOf (CX P w) P w K mg base ["_law_forest", "_law_x", "_law_turn", "_law_found", "_law_here"] "_law_climb" (defScope s__law_climb) f cdv A outer s H E).xe := passes_of rfl
  exact (ess_cons (es_par 3 4 rfl nd (ea_cons (ev_lstR ea_nil) (ea_cons (ev_ix hu (ev_name 0) (ev_name 1)) ea_nil)))
  (ess_cons (es_for [2] ho rfl (ei_rg1 rfl F.n_range (ev_len rfl F.n_len (ea_cons (ev_name 0) ea_nil))) (eg_name 2 nd) (ess_cons (es_if (eb_is (ev_name 4) ev_non) (ess_one es_break) ess_nil)
  (ess_cons (es_expr (ev_append (ev_name 3) (ev_name 4)))
  (ess_one (es_set 4 nd (ev_ix hu (ev_name 0) (ev_ix hu (ev_name 4) ev_int)))))))
  (ess_one (es_ret (ev_name 3)))))
theorem ok__law_climb (F : Fx K mg) : Cal P w K mg base 1 "_law_climb" ["_law_forest", "_law_x"] Lib._law_climb := by
  obtain ⟨f, fd, D, hm⟩ := F.d__law_climb
  exact ⟨f, fd, fn__law_climb F D, hm, D.kp, D.bindsN fun _ _ _ _ _ _ us hl => match us, hl with | [_, _], _ => rfl⟩

theorem sc__law_standing : FnScope ["_law_forest", "_law_x", "_law_y", "_law_holder", "_law_room"] ["_law_forest", "_law_x", "_law_y"] (defScope s__law_standing) := ⟨rfl, rfl, rfl, by decide +kernel, rfl, by decide +kernel, by decide +kernel⟩
theorem fn__law_standing (F : Fx K mg) {f : Addr} {fd : FuncData} (D : FunD K "_law_standing" "_law_standing" (defArgs s__law_standing) (defBody s__law_standing) (defScope s__law_standing) [] [] f fd) : FnD P w K mg base 2 f fd ["_law_forest", "_law_x", "_law_y"] Lib._law_standing := by
  have nd := sc__law_standing.nd
  refine fn_ok (N := ["_law_forest", "_law_x", "_law_y", "_law_holder", "_law_room"]) (ps := ["_law_forest", "_law_x", "_law_y"]) D sc__law_standing (fun T cdv A outer s H E hr => ?_)
  have hu : (cxOf (CX P w) P w K mg base ["_law_forest", "_law_x", "_law_y", "_law_holder", "_law_room"] "_law_standing" (defScope s__law_standing) f cdv A outer s H E).A.units + 65 < cLine := hu_room hr
  have hx : Lets (cxOf (CX P w) P w K mg base ["_law_forest", "_law_x", "_law_y", "_law_holder", "_law_room"] "_law_standing" (defScope s__law_standing) f cdv A outer s H E) E := lets_def (takes_of rfl rfl rfl rfl)
  have ho : PassesOwn (model P w) (cxOf (CX P w) P w K mg base ["_law_forest", "_law_x", "_law_y", "_law_holder", "_law_room"] "_law_standing" (defScope s__law_standing) f cdv A outer s H E).A (cxOf (CX P w) P w K mg base ["_law_forest", "_law_x", "_law_y", "_law_holder", "_law_room"] "_law_standing" (defScope s__law_standing) f cdv A outer s H E).env (cxOf (CX P w) P w K mg base ["_law_forest", "_law_x", "_law_y", "_law_holder", "_law_room"] "_law_standing" (defScope s__law_standing) f cdv A outer s H E).xe := passes_of rfl
  exact (ess_cons (es_for [3, 4] ho rfl (ei_seq (ev_cal (ok__law_climb F) (hr.mono (by decide)) rfl hx (ea_cons (ev_name 0) (ea_cons (ev_name 1) ea_nil)))) (eg_tup rfl (egs_cons (eg_name 3 nd) (egs_cons (eg_name 4 nd) egs_nil))) (ess_one (es_if (eb_eq hu (ev_name 3) (ev_name 2)) (ess_one (es_ret (ev_tup (ea_cons ev_str (ea_cons (ev_name 4) ea_nil))))) ess_nil)))
  (ess_cons (es_for [3, 4] ho rfl (ei_seq (ev_cal (ok__law_climb F) (hr.mono (by decide)) rfl hx (ea_cons (ev_name 0) (ea_cons (ev_name 2) ea_nil)))) (eg_tup rfl (egs_cons (eg_name 3 nd) (egs_cons (eg_name 4 nd) egs_nil))) (ess_one (es_if (eb_eq hu (ev_name 3) (ev_name 1)) (ess_one (es_ret (ev_tup (ea_cons ev_str (ea_cons (ev_name 4) ea_nil))))) ess_nil)))
  (ess_one (es_ret (ev_tup (ea_cons ev_str (ea_cons ev_int ea_nil)))))))
theorem ok__law_standing (F : Fx K mg) : Cal P w K mg base 2 "_law_standing" ["_law_forest", "_law_x", "_law_y"] Lib._law_standing := by
  obtain ⟨f, fd, D, hm⟩ := F.d__law_standing
  exact ⟨f, fd, fn__law_standing F D, hm, D.kp, D.bindsN fun _ _ _ _ _ _ us hl => match us, hl with | [_, _, _], _ => rfl⟩

theorem sc__law_saying : FnScope ["_law_source", "_law_rooms_here", "_law_forest", "_law_x", "_law_y", "_law_standing_here", "_law_own", "_law_is_kept", "_law_lot", "_law_share"] ["_law_source", "_law_rooms_here", "_law_forest"] (defScope s__law_saying) := ⟨rfl, rfl, rfl, by decide +kernel, rfl, by decide +kernel, by decide +kernel⟩
theorem fn__law_saying (F : Fx K mg) {f : Addr} {fd : FuncData} (D : FunD K "_law_saying" "_law_saying" (defArgs s__law_saying) (defBody s__law_saying) (defScope s__law_saying) [] [] f fd) : FnD P w K mg base 3 f fd ["_law_source", "_law_rooms_here", "_law_forest"] Lib._law_saying := by
  have nd := sc__law_saying.nd
  refine fn_ok (N := ["_law_source", "_law_rooms_here", "_law_forest", "_law_x", "_law_y", "_law_standing_here", "_law_own", "_law_is_kept", "_law_lot", "_law_share"]) (ps := ["_law_source", "_law_rooms_here", "_law_forest"]) D sc__law_saying (fun T cdv A outer s H E hr => ?_)
  have hu : (cxOf (CX P w) P w K mg base ["_law_source", "_law_rooms_here", "_law_forest", "_law_x", "_law_y", "_law_standing_here", "_law_own", "_law_is_kept", "_law_lot", "_law_share"] "_law_saying" (defScope s__law_saying) f cdv A outer s H E).A.units + 65 < cLine := hu_room hr
  have hx : Lets (cxOf (CX P w) P w K mg base ["_law_source", "_law_rooms_here", "_law_forest", "_law_x", "_law_y", "_law_standing_here", "_law_own", "_law_is_kept", "_law_lot", "_law_share"] "_law_saying" (defScope s__law_saying) f cdv A outer s H E) E := lets_def (takes_of rfl rfl rfl rfl)
  have ho : PassesOwn (model P w) (cxOf (CX P w) P w K mg base ["_law_source", "_law_rooms_here", "_law_forest", "_law_x", "_law_y", "_law_standing_here", "_law_own", "_law_is_kept", "_law_lot", "_law_share"] "_law_saying" (defScope s__law_saying) f cdv A outer s H E).A (cxOf (CX P w) P w K mg base ["_law_source", "_law_rooms_here", "_law_forest", "_law_x", "_law_y", "_law_standing_here", "_law_own", "_law_is_kept", "_law_lot", "_law_share"] "_law_saying" (defScope s__law_saying) f cdv A outer s H E).env (cxOf (CX P w) P w K mg base ["_law_source", "_law_rooms_here", "_law_forest", "_law_x", "_law_y", "_law_standing_here", "_law_own", "_law_is_kept", "_law_lot", "_law_share"] "_law_saying" (defScope s__law_saying) f cdv A outer s H E).xe := passes_of rfl
  exact (ess_cons (es_set 3 nd (ev_cal (ok__law_take F) (hr.mono (by decide)) rfl hx (ea_cons (ev_name 0) (ea_cons (ev_len rfl F.n_len (ea_cons (ev_name 1) ea_nil)) ea_nil))))
  (ess_cons (es_set 4 nd (ev_mod (ev_intC rfl F.n_int (ea_cons (ev_add (ev_add (ev_name 3) ev_int) (ev_cal (ok__law_take F) (hr.mono (by decide)) rfl hx (ea_cons (ev_name 0) (ea_cons (ev_sub (ev_len rfl F.n_len (ea_cons (ev_name 1) ea_nil)) ev_int) ea_nil)))) ea_nil)) (ev_len rfl F.n_len (ea_cons (ev_name 1) ea_nil))))
  (ess_cons (es_par3 6 7 8 rfl nd (ea_cons (ev_cal (ok__law_standing F) (hr.mono (by decide)) rfl hx (ea_cons (ev_name 2) (ea_cons (ev_name 3) (ea_cons (ev_name 4) ea_nil)))) (ea_cons (ev_gt (ev_cal (ok__law_take F) (hr.mono (by decide)) rfl hx (ea_cons (ev_name 0) (ea_cons ev_int ea_nil))) ev_int) (ea_cons (ev_lstR ea_nil) ea_nil))))
  (ess_cons (es_for [5, 9] ho rfl (ei_seq (ev_cal (ok__law_every F) (hr.mono (by decide)) rfl hx (ea_cons (ev_name 1) (ea_cons (ev_name 3) (ea_cons (ev_name 4) ea_nil))))) (eg_name 5 nd) (ess_cons (es_set 9 nd (ev_if (eb_eq hu (ev_ix hu (ev_name 5) ev_int) ev_str) ev_int ev_int))
  (ess_one (es_if (eb_w (ew_or (eb_eq hu (ev_cal (ok__law_take F) (hr.mono (by decide)) rfl hx (ea_cons (ev_name 0) (ea_cons (ev_name 9) ea_nil))) ev_int) (ew_or1 (eb_w (ew_and (eb_truth (ev_name 7)) (ew_and1 (eb_eq hu (ev_name 5) (ev_name 6)))))))) (ess_one (es_expr (ev_append (ev_name 8) (ev_name 5)))) ess_nil))))
  (ess_one (es_ret (ev_tup (ea_cons (ev_name 3) (ea_cons (ev_name 4) (ea_cons (ev_tupC rfl F.n_tuple (ea_cons (ev_name 8) ea_nil)) ea_nil))))))))))
theorem ok__law_saying (F : Fx K mg) : Cal P w K mg base 3 "_law_saying" ["_law_source", "_law_rooms_here", "_law_forest"] Lib._law_saying := by
  obtain ⟨f, fd, D, hm⟩ := F.d__law_saying
  exact ⟨f, fd, fn__law_saying F D, hm, D.kp, D.bindsN fun _ _ _ _ _ _ us hl => match us, hl with | [_, _, _], _ => rfl⟩

theorem sc__law_sayings : FnScope ["_law_source", "_law_rooms_here", "_law_many", "_law_forest", "_law_turn"] ["_law_source", "_law_rooms_here", "_law_many"] (defScope s__law_sayings) := ⟨rfl, rfl, rfl, by decide +kernel, rfl, by decide +kernel, by decide +kernel⟩
theorem fn__law_sayings (F : Fx K mg) {f : Addr} {fd : FuncData} (D : FunD K "_law_sayings" "_law_sayings" (defArgs s__law_sayings) (defBody s__law_sayings) (defScope s__law_sayings) [] [] f fd) : FnD P w K mg base 4 f fd ["_law_source", "_law_rooms_here", "_law_many"] Lib._law_sayings := by
  have nd := sc__law_sayings.nd
  refine fn_ok (N := ["_law_source", "_law_rooms_here", "_law_many", "_law_forest", "_law_turn"]) (ps := ["_law_source", "_law_rooms_here", "_law_many"]) D sc__law_sayings (fun T cdv A outer s H E hr => ?_)
  have hu : (cxOf (CX P w) P w K mg base ["_law_source", "_law_rooms_here", "_law_many", "_law_forest", "_law_turn"] "_law_sayings" (defScope s__law_sayings) f cdv A outer s H E).A.units + 65 < cLine := hu_room hr
  have hx : Lets (cxOf (CX P w) P w K mg base ["_law_source", "_law_rooms_here", "_law_many", "_law_forest", "_law_turn"] "_law_sayings" (defScope s__law_sayings) f cdv A outer s H E) E := lets_def (takes_of rfl rfl rfl rfl)
  have ho : PassesOwn (model P w) (cxOf (CX P w) P w K mg base ["_law_source", "_law_rooms_here", "_law_many", "_law_forest", "_law_turn"] "_law_sayings" (defScope s__law_sayings) f cdv A outer s H E).A (cxOf (CX P w) P w K mg base ["_law_source", "_law_rooms_here", "_law_many", "_law_forest", "_law_turn"] "_law_sayings" (defScope s__law_sayings) f cdv A outer s H E).env (cxOf (CX P w) P w K mg base ["_law_source", "_law_rooms_here", "_law_many", "_law_forest", "_law_turn"] "_law_sayings" (defScope s__law_sayings) f cdv A outer s H E).xe := passes_of rfl
  exact (ess_cons (es_set 3 nd (ev_cal (ok__law_grown F) (hr.mono (by decide)) rfl hx (ea_cons (ev_name 0) (ea_cons (ev_name 1) ea_nil))))
  (ess_cons (es_if (eb_lt (ev_len rfl F.n_len (ea_cons (ev_name 1) ea_nil)) ev_int) (ess_one (es_ret (ev_lst ea_nil))) ess_nil)
  (ess_one (es_ret (ev_lc (own := [(("_law_turn" : Str), 4)]) mLst_end rfl nd (ei_rg1 rfl F.n_range (ev_cal (ok__law_take F) (hr.mono (by decide)) rfl hx (ea_cons (ev_name 0) (ea_cons (ev_add (ev_name 2) ev_int) ea_nil)))) (blkOk_by (by first | decide +kernel | rfl)) (fun D s H C cl fp => (egw_name 4 nd)) (fun D s H C cl fp => ets_nil) (fun D s H C cl fp => (ev_cal (ok__law_saying F) (hr.mono (by decide)) rfl lets_never (ea_cons (ev_name 0) (ea_cons (ev_name 1) (ea_cons (ev_name 3) ea_nil))))))))))
theorem ok__law_sayings (F : Fx K mg) : Cal P w K mg base 4 "_law_sayings" ["_law_source", "_law_rooms_here", "_law_many"] Lib._law_sayings := by
  obtain ⟨f, fd, D, hm⟩ := F.d__law_sayings
  exact ⟨f, fd, fn__law_sayings F D, hm, D.kp, D.bindsN fun _ _ _ _ _ _ us hl => match us, hl with | [_, _, _], _ => rfl⟩

theorem sc__law_world : FnScope ["_law_source", "_law_most", "_law_said", "_law_rooms_here", "_law_way"] ["_law_source", "_law_most", "_law_said"] (defScope s__law_world) := ⟨rfl, rfl, rfl, by decide +kernel, rfl, by decide +kernel, by decide +kernel⟩
theorem fn__law_world (F : Fx K mg) {f : Addr} {fd : FuncData} (D : FunD K "_law_world" "_law_world" (defArgs s__law_world) (defBody s__law_world) (defScope s__law_world) [] [] f fd) : FnD P w K mg base 5 f fd ["_law_source", "_law_most", "_law_said"] d__law_world := by
  have nd := sc__law_world.nd
  refine fn_ok (N := ["_law_source", "_law_most", "_law_said", "_law_rooms_here", "_law_way"]) (ps := ["_law_source", "_law_most", "_law_said"]) D sc__law_world (fun T cdv A outer s H E hr => ?_)
  have hu : (cxOf (CX P w) P w K mg base ["_law_source", "_law_most", "_law_said", "_law_rooms_here", "_law_way"] "_law_world" (defScope s__law_world) f cdv A outer s H E).A.units + 65 < cLine := hu_room hr
  have hx : Lets (cxOf (CX P w) P w K mg base ["_law_source", "_law_most", "_law_said", "_law_rooms_here", "_law_way"] "_law_world" (defScope s__law_world) f cdv A outer s H E) E := lets_def (takes_of rfl rfl rfl rfl)
  have ho : PassesOwn (model P w) (cxOf (CX P w) P w K mg base ["_law_source", "_law_most", "_law_said", "_law_rooms_here", "_law_way"] "_law_world" (defScope s__law_world) f cdv A outer s H E).A (cxOf (CX P w) P w K mg base ["_law_source", "_law_most", "_law_said", "_law_rooms_here", "_law_way"] "_law_world" (defScope s__law_world) f cdv A outer s H E).env (cxOf (CX P w) P w K mg base ["_law_source", "_law_most", "_law_said", "_law_rooms_here", "_law_way"] "_law_world" (defScope s__law_world) f cdv A outer s H E).xe := passes_of rfl
  exact (ess_cons (es_set 3 nd (ev_cal (ok__law_rooms F) (hr.mono (by decide)) rfl hx (ea_cons (ev_name 0) (ea_cons (ev_add ev_int (ev_mod (ev_cal (ok__law_one F) (hr.mono (by decide)) rfl hx (ea_cons (ev_name 0) (ea_cons (ev_lst (ea_cons ev_int (ea_cons ev_int (ea_cons ev_int (ea_cons ev_int (ea_cons ev_int (ea_cons ev_int ea_nil))))))) ea_nil))) (ev_name 1))) ea_nil))))
  (ess_cons (es_if (eb_lt (ev_len rfl F.n_len (ea_cons (ev_name 3) ea_nil)) ev_int) (ess_one (es_ret (ev_tup (ea_cons (ev_name 3) (ea_cons (ev_lst ea_nil) ea_nil))))) ess_nil)
  (ess_cons (es_set 4 nd (ev_cal (ok__law_take F) (hr.mono (by decide)) rfl hx (ea_cons (ev_name 0) (ea_cons ev_int ea_nil))))
  (ess_cons (es_if (eb_eq hu (ev_name 4) ev_int) (ess_one (es_ret (ev_tup (ea_cons (ev_name 3) (ea_cons (ev_cal (ok__law_sayings F) (hr.mono (by decide)) rfl hx (ea_cons (ev_name 0) (ea_cons (ev_name 3) (ea_cons (ev_name 2) ea_nil)))) ea_nil))))) ess_nil)
  (ess_one (es_ret (ev_tup (ea_cons (ev_name 3) (ea_cons (ev_cal (ok__law_loose F) (hr.mono (by decide)) rfl hx (ea_cons (ev_name 0) (ea_cons (ev_name 3) (ea_cons (ev_name 2) (ea_cons ev_int (ea_cons (ev_mul ev_int (ev_name 4)) ea_nil)))))) ea_nil)))))))))
theorem ok__law_world (F : Fx K mg) : Cal P w K mg base 5 "_law_world" ["_law_source", "_law_most", "_law_said"] d__law_world := by
  obtain ⟨f, fd, D, hm⟩ := F.d__law_world
  exact ⟨f, fd, fn__law_world F D, hm, D.kp, D.bindsN fun _ _ _ _ _ _ us hl => match us, hl with | [_, _, _], _ => rfl⟩

theorem sc__law_parts : FnScope ["_law_table_here", "_law_lot", "_law_left", "_law_found", "_law_part", "_law_at", "_law_near", "_law_y"] ["_law_table_here", "_law_lot"] (defScope s__law_parts) := ⟨rfl, rfl, rfl, by decide +kernel, rfl, by decide +kernel, by decide +kernel⟩
theorem fn__law_parts (F : Fx K mg) {f : Addr} {fd : FuncData} (D : FunD K "_law_parts" "_law_parts" (defArgs s__law_parts) (defBody s__law_parts) (defScope s__law_parts) [] [] f fd) : FnD P w K mg base 1 f fd ["_law_table_here", "_law_lot"] Lib._law_parts := by
  have nd := sc__law_parts.nd
  refine fn_ok (N := ["_law_table_here", "_law_lot", "_law_left", "_law_found", "_law_part", "_law_at", "_law_near", "_law_y"]) (ps := ["_law_table_here", "_law_lot"]) D sc__law_parts (fun T cdv A outer s H E hr => ?_)
  have hu : (cxOf (CX P w) P w K mg base ["_law_table_here", "_law_lot", "_law_left", "_law_found", "_law_part", "_law_at", "_law_near", "_law_y"] "_law_parts" (defScope s__law_parts) f cdv A outer s H E).A.units + 65 < cLine := hu_room hr
  have hx : Lets (cxOf (CX P w) P w K mg base ["_law_table_here", "_law_lot", "_law_left", "_law_found", "_law_part", "_law_at", "_law_near", "_law_y"] "_law_parts" (defScope s__law_parts) f cdv A outer s H E) E := lets_def (takes_of rfl rfl rfl rfl)
  have ho : PassesOwn (model P w) (cxOf (CX P w) P w K mg base ["_law_table_here", "_law_lot", "_law_left", "_law_found", "_law_part", "_law_at", "_law_near", "_law_y"] "_law_parts" (defScope s__law_parts) f cdv A outer s H E).A (cxOf (CX P w) P w K mg base ["_law_table_here", "_law_lot", "_law_left", "_law_found", "_law_part", "_law_at", "_law_near", "_law_y"] "_law_parts" (defScope s__law_parts) f cdv A outer s H E).env (cxOf (CX P w) P w K mg base ["_law_table_here", "_law_lot", "_law_left", "_law_found", "_law_part", "_law_at", "_law_near", "_law_y"] "_law_parts" (defScope s__law_parts) f cdv A outer s H E).xe := passes_of rfl
  exact (ess_cons (es_par 2 3 rfl nd (ea_cons (ev_srtI rfl F.n_sorted (ea_cons (ev_name 1) ea_nil)) (ea_cons (ev_lstR ea_nil) ea_nil)))
  (ess_cons (es_while [4, 5, 6] ho (eb_ne hu (ev_name 2) (ev_lst ea_nil)) (ess_cons (es_asg (ev_tup (ea_cons (ev_lst (ea_cons (ev_ix hu (ev_name 2) ev_int) ea_nil)) (ea_cons ev_int ea_nil))) (eg_tup rfl (egs_cons (eg_name 4 nd) (egs_cons (eg_name 5 nd) egs_nil))))
  (ess_cons (es_set 2 nd (ev_sl (ev_name 2) (eo_some ev_int) eo_none))
  (ess_cons (es_while [6] ho (eb_lt (ev_name 5) (ev_len rfl F.n_len (ea_cons (ev_name 4) ea_nil))) (ess_cons (by first | exact (es_setLc (own := [(("_law_y" : Str), 7)]) mLst_end rfl nd rfl rfl (sw_true rfl rfl rfl (by decide +kernel)) (ei_seq (ev_name 2)) (blkOk_by (by first | decide +kernel | rfl)) (fun D s H C cl fp => (egw_name 7 nd)) (fun D s H C cl fp => (ets_one (eb_notIn hu (ev_tup (ea_cons ev_str (ea_cons ev_int ea_nil))) (ev_ix hu (ev_name 0) (ev_tup (ea_cons (ev_ix hu (ev_name 4) (ev_name 5)) (ea_cons (ev_name 7) ea_nil))))))) (fun D s H C cl fp => (ev_name 7))) | exact (es_set 6 nd (ev_lc (own := [(("_law_y" : Str), 7)]) mLst_end rfl nd (ei_seq (ev_name 2)) (blkOk_by (by first | decide +kernel | rfl)) (fun D s H C cl fp => (egw_name 7 nd)) (fun D s H C cl fp => (ets_one (eb_notIn hu (ev_tup (ea_cons ev_str (ea_cons ev_int ea_nil))) (ev_ix hu (ev_name 0) (ev_tup (ea_cons (ev_ix hu (ev_name 4) (ev_name 5)) (ea_cons (ev_name 7) ea_nil))))))) (fun D s H C cl fp => (ev_name 7)))))
  (ess_cons (by first | exact (es_setLc (own := [(("_law_y" : Str), 7)]) mLst_end rfl nd rfl rfl (sw_true rfl rfl rfl (by decide +kernel)) (ei_seq (ev_name 2)) (blkOk_by (by first | decide +kernel | rfl)) (fun D s H C cl fp => (egw_name 7 nd)) (fun D s H C cl fp => (ets_one (eb_notIn hu (ev_name 7) (ev_name 6)))) (fun D s H C cl fp => (ev_name 7))) | exact (es_set 2 nd (ev_lc (own := [(("_law_y" : Str), 7)]) mLst_end rfl nd (ei_seq (ev_name 2)) (blkOk_by (by first | decide +kernel | rfl)) (fun D s H C cl fp => (egw_name 7 nd)) (fun D s H C cl fp => (ets_one (eb_notIn hu (ev_name 7) (ev_name 6)))) (fun D s H C cl fp => (ev_name 7)))))
  (ess_one (es_asg (ev_tup (ea_cons (ev_add (ev_name 4) (ev_name 6)) (ea_cons (ev_add (ev_name 5) ev_int) ea_nil))) (eg_tup rfl (egs_cons (eg_name 4 nd) (egs_cons (eg_name 5 nd) egs_nil))))))))
  (ess_one (es_expr (ev_append (ev_name 3) (ev_tupC rfl F.n_tuple (ea_cons (ev_srtI rfl F.n_sorted (ea_cons (ev_name 4) ea_nil)) ea_nil)))))))))
  (ess_one (es_ret (ev_name 3)))))
theorem ok__law_parts (F : Fx K mg) : Cal P w K mg base 1 "_law_parts" ["_law_table_here", "_law_lot"] Lib._law_parts := by
  obtain ⟨f, fd, D, hm⟩ := F.d__law_parts
  exact ⟨f, fd, fn__law_parts F D, hm, D.kp, D.bindsN fun _ _ _ _ _ _ us hl => match us, hl with | [_, _], _ => rfl⟩

theorem sc__law_less : FnScope ["_law_lot", "_law_t", "_law_y"] ["_law_lot", "_law_t"] (defScope s__law_less) := ⟨rfl, rfl, rfl, by decide +kernel, rfl, by decide +kernel, by decide +kernel⟩
theorem fn__law_less (F : Fx K mg) {f : Addr} {fd : FuncData} (D : FunD K "_law_less" "_law_less" (defArgs s__law_less) (defBody s__law_less) (defScope s__law_less) [] [] f fd) : FnD P w K mg base 1 f fd ["_law_lot", "_law_t"] Lib._law_less := by
  have nd := sc__law_less.nd
  refine fn_ok (N := ["_law_lot", "_law_t", "_law_y"]) (ps := ["_law_lot", "_law_t"]) D sc__law_less (fun T cdv A outer s H E hr => ?_)
  have hu : (cxOf (CX P w) P w K mg base ["_law_lot", "_law_t", "_law_y"] "_law_less" (defScope s__law_less) f cdv A outer s H E).A.units + 65 < cLine := hu_room hr
  have hx : Lets (cxOf (CX P w) P w K mg base ["_law_lot", "_law_t", "_law_y"] "_law_less" (defScope s__law_less) f cdv A outer s H E) E := lets_def (takes_of rfl rfl rfl rfl)
  have ho : PassesOwn (model P w) (cxOf (CX P w) P w K mg base ["_law_lot", "_law_t", "_law_y"] "_law_less" (defScope s__law_less) f cdv A outer s H E).A (cxOf (CX P w) P w K mg base ["_law_lot", "_law_t", "_law_y"] "_law_less" (defScope s__law_less) f cdv A outer s H E).env (cxOf (CX P w) P w K mg base ["_law_lot", "_law_t", "_law_y"] "_law_less" (defScope s__law_less) f cdv A outer s H E).xe := passes_of rfl
  exact (ess_one (es_ret (ev_lc (own := [(("_law_y" : Str), 2)]) mLst_end rfl nd (ei_seq (ev_name 0)) (blkOk_by (by first | decide +kernel | rfl)) (fun D s H C cl fp => (egw_name 2 nd)) (fun D s H C cl fp => (ets_one (eb_ne hu (ev_name 2) (ev_name 1)))) (fun D s H C cl fp => (ev_name 2)))))
theorem ok__law_less (F : Fx K mg) : Cal P w K mg base 1 "_law_less" ["_law_lot", "_law_t"] Lib._law_less := by
  obtain ⟨f, fd, D, hm⟩ := F.d__law_less
  exact ⟨f, fd, fn__law_less F D, hm, D.kp, D.bindsN fun _ _ _ _ _ _ us hl => match us, hl with | [_, _], _ => rfl⟩

theorem sc__law_over : FnScope ["_law_rooms_here", "_law_table_here", "_law_t", "_law_part", "_law_i", "_law_y"] ["_law_rooms_here", "_law_table_here", "_law_t", "_law_part"] (defScope s__law_over) := ⟨rfl, rfl, rfl, by decide +kernel, rfl, by decide +kernel, by decide +kernel⟩
theorem fn__law_over (F : Fx K mg) {f : Addr} {fd : FuncData} (D : FunD K "_law_over" "_law_over" (defArgs s__law_over) (defBody s__law_over) (defScope s__law_over) [] [] f fd) : FnD P w K mg base 1 f fd ["_law_rooms_here", "_law_table_here", "_law_t", "_law_part"] Lib._law_over := by
  have nd := sc__law_over.nd
  refine fn_ok (N := ["_law_rooms_here", "_law_table_here", "_law_t", "_law_part", "_law_i", "_law_y"]) (ps := ["_law_rooms_here", "_law_table_here", "_law_t", "_law_part"]) D sc__law_over (fun T cdv A outer s H E hr => ?_)
  have hu : (cxOf (CX P w) P w K mg base ["_law_rooms_here", "_law_table_here", "_law_t", "_law_part", "_law_i", "_law_y"] "_law_over" (defScope s__law_over) f cdv A outer s H E).A.units + 65 < cLine := hu_room hr
  have hx : Lets (cxOf (CX P w) P w K mg base ["_law_rooms_here", "_law_table_here", "_law_t", "_law_part", "_law_i", "_law_y"] "_law_over" (defScope s__law_over) f cdv A outer s H E) E := lets_def (takes_of rfl rfl rfl rfl)
  have ho : PassesOwn (model P w) (cxOf (CX P w) P w K mg base ["_law_rooms_here", "_law_table_here", "_law_t", "_law_part", "_law_i", "_law_y"] "_law_over" (defScope s__law_over) f cdv A outer s H E).A (cxOf (CX P w) P w K mg base ["_law_rooms_here", "_law_table_here", "_law_t", "_law_part", "_law_i", "_law_y"] "_law_over" (defScope s__law_over) f cdv A outer s H E).env (cxOf (CX P w) P w K mg base ["_law_rooms_here", "_law_table_here", "_law_t", "_law_part", "_law_i", "_law_y"] "_law_over" (defScope s__law_over) f cdv A outer s H E).xe := passes_of rfl
  exact (ess_one (es_ret (ev_lc (own := [(("_law_i" : Str), 4)]) mLst_end rfl nd (ei_rg1 rfl F.n_range (ev_ix hu (ev_name 0) (ev_name 2))) (blkOk_by (by first | decide +kernel | rfl)) (fun D s H C cl fp => (egw_name 4 nd)) (fun D s H C cl fp => (ets_one (eb_eq hu (ev_lc (own := [(("_law_y" : Str), 5)]) mLst_end rfl nd (ei_seq (ev_name 3)) (blkOk_by (by first | decide +kernel | rfl)) (fun D s H C cl fp => (egw_name 5 nd)) (fun D s H C cl fp => (ets_one (eb_notIn hu (ev_tup (ea_cons ev_str (ea_cons (ev_name 4) ea_nil))) (ev_ix hu (ev_name 1) (ev_tup (ea_cons (ev_name 2) (ea_cons (ev_name 5) ea_nil))))))) (fun D s H C cl fp => (ev_name 5))) (ev_lst ea_nil)))) (fun D s H C cl fp => (ev_name 4)))))
theorem ok__law_over (F : Fx K mg) : Cal P w K mg base 1 "_law_over" ["_law_rooms_here", "_law_table_here", "_law_t", "_law_part"] Lib._law_over := by
  obtain ⟨f, fd, D, hm⟩ := F.d__law_over
  exact ⟨f, fd, fn__law_over F D, hm, D.kp, D.bindsN fun _ _ _ _ _ _ us hl => match us, hl with | [_, _, _, _], _ => rfl⟩

theorem sc__law_free : FnScope ["_law_rooms_here", "_law_table_here", "_law_lot", "_law_found", "_law_t", "_law_part"] ["_law_rooms_here", "_law_table_here", "_law_lot"] (defScope s__law_free) := ⟨rfl, rfl, rfl, by decide +kernel, rfl, by decide +kernel, by decide +kernel⟩
theorem fn__law_free (F : Fx K mg) {f : Addr} {fd : FuncData} (D : FunD K "_law_free" "_law_free" (defArgs s__law_free) (defBody s__law_free) (defScope s__law_free) [] [] f fd) : FnD P w K mg base 2 f fd ["_law_rooms_here", "_law_table_here", "_law_lot"] Lib._law_free := by
  have nd := sc__law_free.nd
  refine fn_ok (N := ["_law_rooms_here", "_law_table_here", "_law_lot", "_law_found", "_law_t", "_law_part"]) (ps := ["_law_rooms_here", "_law_table_here", "_law_lot"]) D sc__law_free (fun T cdv A outer s H E hr => ?_)
  have hu : (cxOf (CX P w) P w K mg base ["_law_rooms_here", "_law_table_here", "_law_lot", "_law_found", "_law_t", "_law_part"] "_law_free" (defScope s__law_free) f cdv A outer s H E).A.units + 65 < cLine := hu_room hr
  have hx : Lets (cxOf (CX P w) P w K mg base ["_law_rooms_here", "_law_table_here", "_law_lot", "_law_found", "_law_t", "_law_part"] "_law_free" (defScope s__law_free) f cdv A outer s H E) E := lets_def (takes_of rfl rfl rfl rfl)
  have ho : PassesOwn (model P w) (cxOf (CX P w) P w K mg base ["_law_rooms_here", "_law_table_here", "_law_lot", "_law_found", "_law_t", "_law_part"] "_law_free" (defScope s__law_free) f cdv A outer s H E).A (cxOf (CX P w) P w K mg base ["_law_rooms_here", "_law_table_here", "_law_lot", "_law_found", "_law_t", "_law_part"] "_law_free" (defScope s__law_free) f cdv A outer s H E).env (cxOf (CX P w) P w K mg base ["_law_rooms_here", "_law_table_here", "_law_lot", "_law_found", "_law_t", "_law_part"] "_law_free" (defScope s__law_free) f cdv A outer s H E).xe := passes_of rfl
  exact (ess_cons (es_set 3 nd (ev_lstR ea_nil))
  (ess_cons (es_for [4] ho rfl (ei_seq (ev_name 2)) (eg_name 4 nd) (ess_one (es_if (eb_eq hu (ev_lc (own := [(("_law_part" : Str), 5)]) mLst_end rfl nd (ei_seq (ev_cal (ok__law_parts F) (hr.mono (by decide)) rfl hx (ea_cons (ev_name 1) (ea_cons (ev_cal (ok__law_less F) (hr.mono (by decide)) rfl hx (ea_cons (ev_name 2) (ea_cons (ev_name 4) ea_nil))) ea_nil)))) (blkOk_by (by first | decide +kernel | rfl)) (fun D s H C cl fp => (egw_name 5 nd)) (fun D s H C cl fp => (ets_one (eb_eq hu (ev_cal (ok__law_over F) (hr.mono (by decide)) rfl lets_never (ea_cons (ev_name 0) (ea_cons (ev_name 1) (ea_cons (ev_name 4) (ea_cons (ev_name 5) ea_nil))))) (ev_lst ea_nil)))) (fun D s H C cl fp => (ev_name 5))) (ev_lst ea_nil)) (ess_one (es_expr (ev_append (ev_name 3) (ev_name 4)))) ess_nil)))
  (ess_one (es_ret (ev_name 3)))))
theorem ok__law_free (F : Fx K mg) : Cal P w K mg base 2 "_law_free" ["_law_rooms_here", "_law_table_here", "_law_lot"] Lib._law_free := by
  obtain ⟨f, fd, D, hm⟩ := F.d__law_free
  exact ⟨f, fd, fn__law_free F D, hm, D.kp, D.bindsN fun _ _ _ _ _ _ us hl => match us, hl with | [_, _, _], _ => rfl⟩

theorem sc__law_solved : FnScope ["_law_rooms_here", "_law_table_here", "_law_part", "_law_places", "_law_work", "_law_some", "_law_t", "_law_inner", "_law_place", "_law_over_here", "_law_x"] ["_law_rooms_here", "_law_table_here"] (defScope s__law_solved) := ⟨rfl, rfl, rfl, by decide +kernel, rfl, by decide +kernel, by decide +kernel⟩
theorem fn__law_solved (F : Fx K mg) {f : Addr} {fd : FuncData} (D : FunD K "_law_solved" "_law_solved" (defArgs s__law_solved) (defBody s__law_solved) (defScope s__law_solved) [] [] f fd) : FnD P w K mg base 3 f fd ["_law_rooms_here", "_law_table_here"] Lib._law_solved := by
  have nd := sc__law_solved.nd
  refine fn_ok (N := ["_law_rooms_here", "_law_table_here", "_law_part", "_law_places", "_law_work", "_law_some", "_law_t", "_law_inner", "_law_place", "_law_over_here", "_law_x"]) (ps := ["_law_rooms_here", "_law_table_here"]) D sc__law_solved (fun T cdv A outer s H E hr => ?_)
  have hu : (cxOf (CX P w) P w K mg base ["_law_rooms_here", "_law_table_here", "_law_part", "_law_places", "_law_work", "_law_some", "_law_t", "_law_inner", "_law_place", "_law_over_here", "_law_x"] "_law_solved" (defScope s__law_solved) f cdv A outer s H E).A.units + 65 < cLine := hu_room hr
  have hx : Lets (cxOf (CX P w) P w K mg base ["_law_rooms_here", "_law_table_here", "_law_part", "_law_places", "_law_work", "_law_some", "_law_t", "_law_inner", "_law_place", "_law_over_here", "_law_x"] "_law_solved" (defScope s__law_solved) f cdv A outer s H E) E := lets_def (takes_of rfl rfl rfl rfl)
  have ho : PassesOwn (model P w) (cxOf (CX P w) P w K mg base ["_law_rooms_here", "_law_table_here", "_law_part", "_law_places", "_law_work", "_law_some", "_law_t", "_law_inner", "_law_place", "_law_over_here", "_law_x"] "_law_solved" (defScope s__law_solved) f cdv A outer s H E).A (cxOf (CX P w) P w K mg base ["_law_rooms_here", "_law_table_here", "_law_part", "_law_places", "_law_work", "_law_some", "_law_t", "_law_inner", "_law_place", "_law_over_here", "_law_x"] "_law_solved" (defScope s__law_solved) f cdv A outer s H E).env (cxOf (CX P w) P w K mg base ["_law_rooms_here", "_law_table_here", "_law_part", "_law_places", "_law_work", "_law_some", "_law_t", "_law_inner", "_law_place", "_law_over_here", "_law_x"] "_law_solved" (defScope s__law_solved) f cdv A outer s H E).xe := passes_of rfl
  exact (ess_cons (es_par 3 4 rfl nd (ea_cons (ev_lc (own := [(("_law_x" : Str), 10)]) mLstR_end rfl nd (ei_rg1 rfl F.n_range (ev_len rfl F.n_len (ea_cons (ev_name 0) ea_nil))) (blkOk_by (by first | decide +kernel | rfl)) (fun D s H C cl fp => (egw_name 10 nd)) (fun D s H C cl fp => ets_nil) (fun D s H C cl fp => ev_non)) (ea_cons (ev_lstR ea_nil) ea_nil)))
  (ess_cons (es_for [2] ho rfl (ei_seq (ev_cal (ok__law_parts F) (hr.mono (by decide)) rfl hx (ea_cons (ev_name 1) (ea_cons (ev_lc (own := [(("_law_x" : Str), 10)]) mLst_end rfl nd (ei_rg1 rfl F.n_range (ev_len rfl F.n_len (ea_cons (ev_name 0) ea_nil))) (blkOk_by (by first | decide +kernel | rfl)) (fun D s H C cl fp => (egw_name 10 nd)) (fun D s H C cl fp => ets_nil) (fun D s H C cl fp => (ev_name 10))) ea_nil)))) (eg_name 2 nd) (ess_one (es_expr (ev_append (ev_name 4) (ev_tup (ea_cons (ev_name 2) (ea_cons ev_non ea_nil)))))))
  (ess_cons (es_while [2, 8, 5, 6, 7, 9] ho (eb_ne hu (ev_name 4) (ev_lst ea_nil)) (ess_cons (es_asg (ev_pop0 (ev_name 4)) (eg_tup rfl (egs_cons (eg_name 2 nd) (egs_cons (eg_name 8 nd) egs_nil))))
  (ess_cons (es_set 5 nd (ev_cal (ok__law_free F) (hr.mono (by decide)) rfl hx (ea_cons (ev_name 0) (ea_cons (ev_name 1) (ea_cons (ev_name 2) ea_nil)))))
  (ess_cons (es_if (eb_eq hu (ev_name 5) (ev_lst ea_nil)) (ess_one (es_ret (ev_tup (ea_cons ev_non (ea_cons (ev_name 2) ea_nil))))) ess_nil)
  (ess_cons (es_set 6 nd (ev_ix hu (ev_name 5) (ev_sub (ev_len rfl F.n_len (ea_cons (ev_name 5) ea_nil)) ev_int)))
  (ess_cons (es_asg (ev_name 8) (eg_sub hu (ev_name 3) (ev_name 6)))
  (ess_one (es_for [7, 9] ho rfl (ei_seq (ev_cal (ok__law_parts F) (hr.mono (by decide)) rfl hx (ea_cons (ev_name 1) (ea_cons (ev_cal (ok__law_less F) (hr.mono (by decide)) rfl hx (ea_cons (ev_name 2) (ea_cons (ev_name 6) ea_nil))) ea_nil)))) (eg_name 7 nd) (ess_cons (es_set 9 nd (ev_cal (ok__law_over F) (hr.mono (by decide)) rfl hx (ea_cons (ev_name 0) (ea_cons (ev_name 1) (ea_cons (ev_name 6) (ea_cons (ev_name 7) ea_nil))))))
  (ess_one (es_expr (ev_append (ev_name 4) (ev_tup (ea_cons (ev_name 7) (ea_cons (ev_tup (ea_cons (ev_name 6) (ea_cons (ev_ix hu (ev_name 9) (ev_sub (ev_len rfl F.n_len (ea_cons (ev_name 9) ea_nil)) ev_int)) ea_nil))) ea_nil)))))))))))))))
  (ess_one (es_ret (ev_tup (ea_cons (ev_tupC rfl F.n_tuple (ea_cons (ev_name 3) ea_nil)) (ea_cons ev_non ea_nil))))))))
theorem ok__law_solved (F : Fx K mg) : Cal P w K mg base 3 "_law_solved" ["_law_rooms_here", "_law_table_here"] Lib._law_solved := by
  obtain ⟨f, fd, D, hm⟩ := F.d__law_solved
  exact ⟨f, fd, fn__law_solved F D, hm, D.kp, D.bindsN fun _ _ _ _ _ _ us hl => match us, hl with | [_, _], _ => rfl⟩

theorem sc__law_placed : FnScope ["_law_forest", "_law_x", "_law_place"] ["_law_forest", "_law_x", "_law_place"] (defScope s__law_placed) := ⟨rfl, rfl, rfl, by decide +kernel, rfl, by decide +kernel, by decide +kernel⟩
theorem fn__law_placed (F : Fx K mg) {f : Addr} {fd : FuncData} (D : FunD K "_law_placed" "_law_placed" (defArgs s__law_placed) (defBody s__law_placed) (defScope s__law_placed) [] [] f fd) : FnD P w K mg base 1 f fd ["_law_forest", "_law_x", "_law_place"] d__law_placed := by
  have nd := sc__law_placed.nd
  refine fn_ok (N := ["_law_forest", "_law_x", "_law_place"]) (ps := ["_law_forest", "_law_x", "_law_place"]) D sc__law_placed (fun T cdv A outer s H E hr => ?_)
  have hu : (cxOf (CX P w) P w K mg base ["_law_forest", "_law_x", "_law_place"] "_law_placed" (defScope s__law_placed) f cdv A outer s H E).A.units + 65 < cLine := hu_room hr
  have hx : Lets (cxOf (CX P w) P w K mg base ["_law_forest", "_law_x", "_law_place"] "_law_placed" (defScope s__law_placed) f cdv A outer s H E) E := lets_def (takes_of rfl rfl rfl rfl)
  have ho : PassesOwn (model P w) (cxOf (CX P w) P w K mg base ["_law_forest", "_law_x", "_law_place"] "_law_placed" (defScope s__law_placed) f cdv A outer s H E).A (cxOf (CX P w) P w K mg base ["_law_forest", "_law_x", "_law_place"] "_law_placed" (defScope s__law_placed) f cdv A outer s H E).env (cxOf (CX P w) P w K mg base ["_law_forest", "_law_x", "_law_place"] "_law_placed" (defScope s__law_placed) f cdv A outer s H E).xe := passes_of rfl
  exact (ess_one (es_ret (ev_add (ev_add (ev_sl (ev_name 0) eo_none (eo_some (ev_name 1))) (ev_tup (ea_cons (ev_name 2) ea_nil))) (ev_sl (ev_name 0) (eo_some (ev_add (ev_name 1) ev_int)) eo_none))))
theorem ok__law_placed (F : Fx K mg) : Cal P w K mg base 1 "_law_placed" ["_law_forest", "_law_x", "_law_place"] d__law_placed := by
  obtain ⟨f, fd, D, hm⟩ := F.d__law_placed
  exact ⟨f, fd, fn__law_placed F D, hm, D.kp, D.bindsN fun _ _ _ _ _ _ us hl => match us, hl with | [_, _, _], _ => rfl⟩

theorem sc__law_odd : FnScope ["_law_source", "_law_rooms_here", "_law_forest", "_law_many", "_law_truth", "_law_short", "_law_below", "_law_found", "_law_x", "_law_y", "_law_place"] ["_law_source", "_law_rooms_here", "_law_forest"] (defScope s__law_odd) := ⟨rfl, rfl, rfl, by decide +kernel, rfl, by decide +kernel, by decide +kernel⟩
theorem fn__law_odd (F : Fx K mg) {f : Addr} {fd : FuncData} (D : FunD K "_law_odd" "_law_odd" (defArgs s__law_odd) (defBody s__law_odd) (defScope s__law_odd) [] [] f fd) : FnD P w K mg base 3 f fd ["_law_source", "_law_rooms_here", "_law_forest"] d__law_odd := by
  have nd := sc__law_odd.nd
  refine fn_ok (N := ["_law_source", "_law_rooms_here", "_law_forest", "_law_many", "_law_truth", "_law_short", "_law_below", "_law_found", "_law_x", "_law_y", "_law_place"]) (ps := ["_law_source", "_law_rooms_here", "_law_forest"]) D sc__law_odd (fun T cdv A outer s H E hr => ?_)
  have hu : (cxOf (CX P w) P w K mg base ["_law_source", "_law_rooms_here", "_law_forest", "_law_many", "_law_truth", "_law_short", "_law_below", "_law_found", "_law_x", "_law_y", "_law_place"] "_law_odd" (defScope s__law_odd) f cdv A outer s H E).A.units + 65 < cLine := hu_room hr
  have hx : Lets (cxOf (CX P w) P w K mg base ["_law_source", "_law_rooms_here", "_law_forest", "_law_many", "_law_truth", "_law_short", "_law_below", "_law_found", "_law_x", "_law_y", "_law_place"] "_law_odd" (defScope s__law_odd) f cdv A outer s H E) E := lets_def (takes_of rfl rfl rfl rfl)
  have ho : PassesOwn (model P w) (cxOf (CX P w) P w K mg base ["_law_source", "_law_rooms_here", "_law_forest", "_law_many", "_law_truth", "_law_short", "_law_below", "_law_found", "_law_x", "_law_y", "_law_place"] "_law_odd" (defScope s__law_odd) f cdv A outer s H E).A (cxOf (CX P w) P w K mg base ["_law_source", "_law_rooms_here", "_law_forest", "_law_many", "_law_truth", "_law_short", "_law_below", "_law_found", "_law_x", "_law_y", "_law_place"] "_law_odd" (defScope s__law_odd) f cdv A outer s H E).env (cxOf (CX P w) P w K mg base ["_law_source", "_law_rooms_here", "_law_forest", "_law_many", "_law_truth", "_law_short", "_law_below", "_law_found", "_law_x", "_law_y", "_law_place"] "_law_odd" (defScope s__law_odd) f cdv A outer s H E).xe := passes_of rfl
  exact (ess_cons (es_set 3 nd (ev_len rfl F.n_len (ea_cons (ev_name 1) ea_nil)))
  (ess_cons (es_asg (ev_tup (ea_cons (ev_cal (ok__law_take F) (hr.mono (by decide)) rfl hx (ea_cons (ev_name 0) (ea_cons (ev_name 3) ea_nil))) (ea_cons (ev_cal (ok__law_take F) (hr.mono (by decide)) rfl hx (ea_cons (ev_name 0) (ea_cons (ev_name 3) ea_nil))) ea_nil))) (eg_tup rfl (egs_cons (eg_name 8 nd) (egs_cons (eg_name 9 nd) egs_nil))))
  (ess_cons (es_set 4 nd (ev_lst (ea_cons (ev_tup (ea_cons ev_bl (ea_cons ev_int ea_nil))) (ea_cons (ev_tup (ea_cons ev_bl (ea_cons ev_int ea_nil))) (ea_cons (ev_tup (ea_cons (ev_name 9) (ea_cons ev_bl ea_nil))) (ea_cons (ev_tup (ea_cons (ev_name 9) (ea_cons ev_bl ea_nil))) ea_nil))))))
  (ess_cons (es_set 5 nd (ev_lst (ea_cons (ev_tup (ea_cons (ev_name 9) ea_nil)) (ea_cons (ev_tup (ea_cons (ev_name 9) (ea_cons ev_int (ea_cons ev_int ea_nil)))) (ea_cons (ev_name 9) (ea_cons ev_str (ea_cons (ev_tup ea_nil) (ea_cons (ev_tup (ea_cons ev_str (ea_cons ev_int ea_nil))) (ea_cons (ev_tup (ea_cons ev_non (ea_cons ev_int ea_nil))) (ea_cons (ev_tup (ea_cons (ev_name 9) (ea_cons ev_non ea_nil))) ea_nil))))))))))
  (ess_cons (es_set 6 nd (ev_lst (ea_cons (ev_tup (ea_cons (ev_neg ev_int) (ea_cons ev_int ea_nil))) (ea_cons (ev_tup (ea_cons (ev_name 9) (ea_cons (ev_neg ev_int) ea_nil))) (ea_cons (ev_tup (ea_cons (ev_name 3) (ea_cons ev_int ea_nil))) (ea_cons (ev_tup (ea_cons (ev_pow ev_int ev_int) (ea_cons ev_int ea_nil))) (ea_cons (ev_tup (ea_cons (ev_name 9) (ea_cons (ev_pow ev_int ev_int) ea_nil))) ea_nil)))))))
  (ess_cons (by first | exact (es_setLc (own := [(("_law_place" : Str), 10)]) mLstR_end rfl nd rfl rfl (sw_true rfl rfl rfl (by decide +kernel)) (ei_seq (ev_add (ev_name 4) (ev_name 6))) (blkOk_by (by first | decide +kernel | rfl)) (fun D s H C cl fp => (egw_name 10 nd)) (fun D s H C cl fp => ets_nil) (fun D s H C cl fp => (ev_cal (ok__law_placed F) (hr.mono (by decide)) rfl lets_never (ea_cons (ev_name 2) (ea_cons (ev_name 8) (ea_cons (ev_name 10) ea_nil)))))) | exact (es_set 7 nd (ev_lc (own := [(("_law_place" : Str), 10)]) mLstR_end rfl nd (ei_seq (ev_add (ev_name 4) (ev_name 6))) (blkOk_by (by first | decide +kernel | rfl)) (fun D s H C cl fp => (egw_name 10 nd)) (fun D s H C cl fp => ets_nil) (fun D s H C cl fp => (ev_cal (ok__law_placed F) (hr.mono (by decide)) rfl lets_never (ea_cons (ev_name 2) (ea_cons (ev_name 8) (ea_cons (ev_name 10) ea_nil))))))))
  (ess_cons (es_expr (ev_append (ev_name 7) (ev_cal (ok__law_placed F) (hr.mono (by decide)) rfl hx (ea_cons (ev_name 2) (ea_cons (ev_name 8) (ea_cons (ev_cal (ok__law_one F) (hr.mono (by decide)) rfl hx (ea_cons (ev_name 0) (ea_cons (ev_name 5) ea_nil))) ea_nil))))))
  (ess_cons (es_expr (ev_extend (ev_name 7) (ev_lst (ea_cons (ev_add (ev_name 2) (ev_tup (ea_cons ev_non ea_nil))) (ea_cons (ev_sl (ev_name 2) eo_none (eo_some (ev_sub (ev_name 3) ev_int))) (ea_cons (ev_tup (ea_cons (ev_name 2) ea_nil)) (ea_cons ev_non (ea_cons ev_bl (ea_cons ev_int (ea_cons ev_str ea_nil))))))))))
  (ess_one (es_ret (ev_name 7)))))))))))
theorem ok__law_odd (F : Fx K mg) : Cal P w K mg base 3 "_law_odd" ["_law_source", "_law_rooms_here", "_law_forest"] d__law_odd := by
  obtain ⟨f, fd, D, hm⟩ := F.d__law_odd
  exact ⟨f, fd, fn__law_odd F D, hm, D.kp, D.bindsN fun _ _ _ _ _ _ us hl => match us, hl with | [_, _, _], _ => rfl⟩

theorem sc_room_way : FnScope ["forest", "x", "y", "place"] ["forest", "x", "y"] (defScope s_room_way) := ⟨rfl, rfl, rfl, by decide +kernel, rfl, by decide +kernel, by decide +kernel⟩
theorem fn_room_way (F : Fx K mg) {f : Addr} {fd : FuncData} (D : FunD K "room_way" "room_way" (defArgs s_room_way) (defBody s_room_way) (defScope s_room_way) [] [] f fd) : FnD P w K mg base 1 f fd ["forest", "x", "y"] Lib.room_way := by
  have nd := sc_room_way.nd
  refine fn_ok (N := ["forest", "x", "y", "place"]) (ps := ["forest", "x", "y"]) D sc_room_way (fun T cdv A outer s H E hr => ?_)
  have hu : (cxOf (CX P w) P w K mg base ["forest", "x", "y", "place"] "room_way" (defScope s_room_way) f cdv A outer s H E).A.units + 65 < cLine := hu_room hr
  have hx : Lets (cxOf (CX P w) P w K mg base ["forest", "x", "y", "place"] "room_way" (defScope s_room_way) f cdv A outer s H E) E := lets_def (takes_of rfl rfl rfl rfl)
  have ho : PassesOwn (model P w) (cxOf (CX P w) P w K mg base ["forest", "x", "y", "place"] "room_way" (defScope s_room_way) f cdv A outer s H E).A (cxOf (CX P w) P w K mg base ["forest", "x", "y", "place"] "room_way" (defScope s_room_way) f cdv A outer s H E).env (cxOf (CX P w) P w K mg base ["forest", "x", "y", "place"] "room_way" (defScope s_room_way) f cdv A outer s H E).xe := passes_of rfl
  exact (ess_cons (es_set 3 nd (ev_ix hu (ev_name 0) (ev_name 1)))
  (ess_cons (es_while [] ho (eb_isNot (ev_name 3) ev_non) (ess_cons (es_if (eb_eq hu (ev_ix hu (ev_name 3) ev_int) (ev_name 2)) (ess_one (es_ret (ev_ix hu (ev_name 3) ev_int))) ess_nil)
  (ess_one (es_set 3 nd (ev_ix hu (ev_name 0) (ev_ix hu (ev_name 3) ev_int))))))
  (ess_one (es_ret ev_non))))
theorem ok_room_way (F : Fx K mg) : Cal P w K mg base 1 "room_way" ["forest", "x", "y"] Lib.room_way := by
  obtain ⟨f, fd, D, hm⟩ := F.d_room_way
  exact ⟨f, fd, fn_room_way F D, hm, D.kp, D.bindsN fun _ _ _ _ _ _ us hl => match us, hl with | [_, _, _], _ => rfl⟩

theorem sc_standing_in : FnScope ["forest", "x", "y", "room"] ["forest", "x", "y"] (defScope s_standing_in) := ⟨rfl, rfl, rfl, by decide +kernel, rfl, by decide +kernel, by decide +kernel⟩
theorem fn_standing_in (F : Fx K mg) {f : Addr} {fd : FuncData} (D : FunD K "standing_in" "standing_in" (defArgs s_standing_in) (defBody s_standing_in) (defScope s_standing_in) [] [] f fd) : FnD P w K mg base 2 f fd ["forest", "x", "y"] Lib.standing_in := by
  have nd := sc_standing_in.nd
  refine fn_ok (N := ["forest", "x", "y", "room"]) (ps := ["forest", "x", "y"]) D sc_standing_in (fun T cdv A outer s H E hr => ?_)
  have hu : (cxOf (CX P w) P w K mg base ["forest", "x", "y", "room"] "standing_in" (defScope s_standing_in) f cdv A outer s H E).A.units + 65 < cLine := hu_room hr
  have hx : Lets (cxOf (CX P w) P w K mg base ["forest", "x", "y", "room"] "standing_in" (defScope s_standing_in) f cdv A outer s H E) E := lets_def (takes_of rfl rfl rfl rfl)
  have ho : PassesOwn (model P w) (cxOf (CX P w) P w K mg base ["forest", "x", "y", "room"] "standing_in" (defScope s_standing_in) f cdv A outer s H E).A (cxOf (CX P w) P w K mg base ["forest", "x", "y", "room"] "standing_in" (defScope s_standing_in) f cdv A outer s H E).env (cxOf (CX P w) P w K mg base ["forest", "x", "y", "room"] "standing_in" (defScope s_standing_in) f cdv A outer s H E).xe := passes_of rfl
  exact (ess_cons (es_set 3 nd (ev_cal (ok_room_way F) (hr.mono (by decide)) rfl hx (ea_cons (ev_name 0) (ea_cons (ev_name 1) (ea_cons (ev_name 2) ea_nil)))))
  (ess_cons (es_if (eb_isNot (ev_name 3) ev_non) (ess_one (es_ret (ev_tup (ea_cons ev_str (ea_cons (ev_name 3) ea_nil))))) ess_nil)
  (ess_cons (es_set 3 nd (ev_cal (ok_room_way F) (hr.mono (by decide)) rfl hx (ea_cons (ev_name 0) (ea_cons (ev_name 2) (ea_cons (ev_name 1) ea_nil)))))
  (ess_one (es_ret (ev_if (eb_is (ev_name 3) ev_non) (ev_gtupX rfl F.t_APART) (ev_tup (ea_cons ev_str (ea_cons (ev_name 3) ea_nil)))))))))
theorem ok_standing_in (F : Fx K mg) : Cal P w K mg base 2 "standing_in" ["forest", "x", "y"] Lib.standing_in := by
  obtain ⟨f, fd, D, hm⟩ := F.d_standing_in
  exact ⟨f, fd, fn_standing_in F D, hm, D.kp, D.bindsN fun _ _ _ _ _ _ us hl => match us, hl with | [_, _, _], _ => rfl⟩

theorem sc_first_broken : FnScope ["book", "forest", "index", "x", "y", "lets"] ["book", "forest"] (defScope s_first_broken) := ⟨rfl, rfl, rfl, by decide +kernel, rfl, by decide +kernel, by decide +kernel⟩
theorem fn_first_broken (F : Fx K mg) {f : Addr} {fd : FuncData} (D : FunD K "first_broken" "first_broken" (defArgs s_first_broken) (defBody s_first_broken) (defScope s_first_broken) [] [] f fd) : FnD P w K mg base 3 f fd ["book", "forest"] Lib.first_broken := by
  have nd := sc_first_broken.nd
  refine fn_ok (N := ["book", "forest", "index", "x", "y", "lets"]) (ps := ["book", "forest"]) D sc_first_broken (fun T cdv A outer s H E hr => ?_)
  have hu : (cxOf (CX P w) P w K mg base ["book", "forest", "index", "x", "y", "lets"] "first_broken" (defScope s_first_broken) f cdv A outer s H E).A.units + 65 < cLine := hu_room hr
  have hx : Lets (cxOf (CX P w) P w K mg base ["book", "forest", "index", "x", "y", "lets"] "first_broken" (defScope s_first_broken) f cdv A outer s H E) E := lets_def (takes_of rfl rfl rfl rfl)
  have ho : PassesOwn (model P w) (cxOf (CX P w) P w K mg base ["book", "forest", "index", "x", "y", "lets"] "first_broken" (defScope s_first_broken) f cdv A outer s H E).A (cxOf (CX P w) P w K mg base ["book", "forest", "index", "x", "y", "lets"] "first_broken" (defScope s_first_broken) f cdv A outer s H E).env (cxOf (CX P w) P w K mg base ["book", "forest", "index", "x", "y", "lets"] "first_broken" (defScope s_first_broken) f cdv A outer s H E).xe := passes_of rfl
  exact (ess_cons (es_for [2, 3, 4, 5] ho rfl (ei_enum rfl F.n_enumerate (ev_ix hu (ev_name 0) ev_int)) (eg_tup rfl (egs_cons (eg_name 2 nd) (egs_cons (eg_tup rfl (egs_cons (eg_name 3 nd) (egs_cons (eg_name 4 nd) (egs_cons (eg_name 5 nd) egs_nil)))) egs_nil))) (ess_one (es_if (eb_notIn hu (ev_cal (ok_standing_in F) (hr.mono (by decide)) rfl hx (ea_cons (ev_name 1) (ea_cons (ev_name 3) (ea_cons (ev_name 4) ea_nil)))) (ev_name 5)) (ess_one (es_ret (ev_name 2))) ess_nil)))
  (ess_one (es_ret ev_non)))
theorem ok_first_broken (F : Fx K mg) : Cal P w K mg base 3 "first_broken" ["book", "forest"] Lib.first_broken := by
  obtain ⟨f, fd, D, hm⟩ := F.d_first_broken
  exact ⟨f, fd, fn_first_broken F D, hm, D.kp, D.bindsN fun _ _ _ _ _ _ us hl => match us, hl with | [_, _], _ => rfl⟩

theorem sc_is_pair : FnScope ["thing"] ["thing"] (defScope s_is_pair) := ⟨rfl, rfl, rfl, by decide +kernel, rfl, by decide +kernel, by decide +kernel⟩
theorem fn_is_pair (F : Fx K mg) {f : Addr} {fd : FuncData} (D : FunD K "is_pair" "is_pair" (defArgs s_is_pair) (defBody s_is_pair) (defScope s_is_pair) [] [] f fd) : FnD P w K mg base 1 f fd ["thing"] Lib.is_pair := by
  have nd := sc_is_pair.nd
  refine fn_ok (N := ["thing"]) (ps := ["thing"]) D sc_is_pair (fun T cdv A outer s H E hr => ?_)
  have hu : (cxOf (CX P w) P w K mg base ["thing"] "is_pair" (defScope s_is_pair) f cdv A outer s H E).A.units + 65 < cLine := hu_room hr
  have hx : Lets (cxOf (CX P w) P w K mg base ["thing"] "is_pair" (defScope s_is_pair) f cdv A outer s H E) E := lets_def (takes_of rfl rfl rfl rfl)
  have ho : PassesOwn (model P w) (cxOf (CX P w) P w K mg base ["thing"] "is_pair" (defScope s_is_pair) f cdv A outer s H E).A (cxOf (CX P w) P w K mg base ["thing"] "is_pair" (defScope s_is_pair) f cdv A outer s H E).env (cxOf (CX P w) P w K mg base ["thing"] "is_pair" (defScope s_is_pair) f cdv A outer s H E).xe := passes_of rfl
  exact (ess_one (es_ret (ev_and (ev_isi rfl F.n_isinstance (ea_cons (ev_name 0) (ea_cons (ev_bty rfl F.n_tuple (by decide +kernel)) ea_nil))) (ev_one (ev_eq hu (ev_len rfl F.n_len (ea_cons (ev_name 0) ea_nil)) ev_int)))))
theorem ok_is_pair (F : Fx K mg) : Cal P w K mg base 1 "is_pair" ["thing"] Lib.is_pair := by
  obtain ⟨f, fd, D, hm⟩ := F.d_is_pair
  exact ⟨f, fd, fn_is_pair F D, hm, D.kp, D.bindsN fun _ _ _ _ _ _ us hl => match us, hl with | [_], _ => rfl⟩

theorem sc_is_whole : FnScope ["value"] ["value"] (defScope s_is_whole) := ⟨rfl, rfl, rfl, by decide +kernel, rfl, by decide +kernel, by decide +kernel⟩
theorem fn_is_whole (F : Fx K mg) {f : Addr} {fd : FuncData} (D : FunD K "is_whole" "is_whole" (defArgs s_is_whole) (defBody s_is_whole) (defScope s_is_whole) [] [] f fd) : FnD P w K mg base 1 f fd ["value"] Lib.is_whole := by
  have nd := sc_is_whole.nd
  refine fn_ok (N := ["value"]) (ps := ["value"]) D sc_is_whole (fun T cdv A outer s H E hr => ?_)
  have hu : (cxOf (CX P w) P w K mg base ["value"] "is_whole" (defScope s_is_whole) f cdv A outer s H E).A.units + 65 < cLine := hu_room hr
  have hx : Lets (cxOf (CX P w) P w K mg base ["value"] "is_whole" (defScope s_is_whole) f cdv A outer s H E) E := lets_def (takes_of rfl rfl rfl rfl)
  have ho : PassesOwn (model P w) (cxOf (CX P w) P w K mg base ["value"] "is_whole" (defScope s_is_whole) f cdv A outer s H E).A (cxOf (CX P w) P w K mg base ["value"] "is_whole" (defScope s_is_whole) f cdv A outer s H E).env (cxOf (CX P w) P w K mg base ["value"] "is_whole" (defScope s_is_whole) f cdv A outer s H E).xe := passes_of rfl
  exact (ess_one (es_ret (ev_and (ev_isi rfl F.n_isinstance (ea_cons (ev_name 0) (ea_cons (ev_bty rfl F.n_int (by decide +kernel)) ea_nil))) (ev_one (ev_not (ev_isi rfl F.n_isinstance (ea_cons (ev_name 0) (ea_cons (ev_bty rfl F.n_bool (by decide +kernel)) ea_nil))))))))
theorem ok_is_whole (F : Fx K mg) : Cal P w K mg base 1 "is_whole" ["value"] Lib.is_whole := by
  obtain ⟨f, fd, D, hm⟩ := F.d_is_whole
  exact ⟨f, fd, fn_is_whole F D, hm, D.kp, D.bindsN fun _ _ _ _ _ _ us hl => match us, hl with | [_], _ => rfl⟩

theorem sc_is_rooms : FnScope ["thing", "many"] ["thing"] (defScope s_is_rooms) := ⟨rfl, rfl, rfl, by decide +kernel, rfl, by decide +kernel, by decide +kernel⟩
theorem fn_is_rooms (F : Fx K mg) {f : Addr} {fd : FuncData} (D : FunD K "is_rooms" "is_rooms" (defArgs s_is_rooms) (defBody s_is_rooms) (defScope s_is_rooms) [] [] f fd) : FnD P w K mg base 2 f fd ["thing"] Lib.is_rooms := by
  have nd := sc_is_rooms.nd
  refine fn_ok (N := ["thing", "many"]) (ps := ["thing"]) D sc_is_rooms (fun T cdv A outer s H E hr => ?_)
  have hu : (cxOf (CX P w) P w K mg base ["thing", "many"] "is_rooms" (defScope s_is_rooms) f cdv A outer s H E).A.units + 65 < cLine := hu_room hr
  have hx : Lets (cxOf (CX P w) P w K mg base ["thing", "many"] "is_rooms" (defScope s_is_rooms) f cdv A outer s H E) E := lets_def (takes_of rfl rfl rfl rfl)
  have ho : PassesOwn (model P w) (cxOf (CX P w) P w K mg base ["thing", "many"] "is_rooms" (defScope s_is_rooms) f cdv A outer s H E).A (cxOf (CX P w) P w K mg base ["thing", "many"] "is_rooms" (defScope s_is_rooms) f cdv A outer s H E).env (cxOf (CX P w) P w K mg base ["thing", "many"] "is_rooms" (defScope s_is_rooms) f cdv A outer s H E).xe := passes_of rfl
  exact (ess_cons (es_if (eb_w (ew_or (eb_not (eb_truth (ev_isi rfl F.n_isinstance (ea_cons (ev_name 0) (ea_cons (ev_bty rfl F.n_tuple (by decide +kernel)) ea_nil))))) (ew_or1 (eb_gt (ev_len rfl F.n_len (ea_cons (ev_name 0) ea_nil)) (ev_gint rfl F.c_MOST_THINGS))))) (ess_one (es_ret ev_bl)) ess_nil)
  (ess_one (es_ret (ev_eq hu (ev_lc (own := [(("many" : Str), 1)]) mLst_end rfl nd (ei_seq (ev_name 0)) (blkOk_by (by first | decide +kernel | rfl)) (fun D s H C cl fp => (egw_name 1 nd)) (fun D s H C cl fp => (ets_one (eb_w (ew_or (eb_not (eb_truth (ev_cal (ok_is_whole F) (hr.mono (by decide)) rfl lets_never (ea_cons (ev_name 1) ea_nil)))) (ew_or1 (eb_not (eb_chainI op_le op_le ev_int (ev_name 1) (ev_gint rfl F.c_MOST_ROOMS)))))))) (fun D s H C cl fp => (ev_name 1))) (ev_lst ea_nil)))))
theorem ok_is_rooms (F : Fx K mg) : Cal P w K mg base 2 "is_rooms" ["thing"] Lib.is_rooms := by
  obtain ⟨f, fd, D, hm⟩ := F.d_is_rooms
  exact ⟨f, fd, fn_is_rooms F D, hm, D.kp, D.bindsN fun _ _ _ _ _ _ us hl => match us, hl with | [_], _ => rfl⟩

theorem sc_all_standings : FnScope ["rooms", "x", "y", "inner", "room"] ["rooms", "x", "y"] (defScope s_all_standings) := ⟨rfl, rfl, rfl, by decide +kernel, rfl, by decide +kernel, by decide +kernel⟩
theorem fn_all_standings (F : Fx K mg) {f : Addr} {fd : FuncData} (D : FunD K "all_standings" "all_standings" (defArgs s_all_standings) (defBody s_all_standings) (defScope s_all_standings) [] [] f fd) : FnD P w K mg base 1 f fd ["rooms", "x", "y"] Lib.all_standings := by
  have nd := sc_all_standings.nd
  refine fn_ok (N := ["rooms", "x", "y", "inner", "room"]) (ps := ["rooms", "x", "y"]) D sc_all_standings (fun T cdv A outer s H E hr => ?_)
  have hu : (cxOf (CX P w) P w K mg base ["rooms", "x", "y", "inner", "room"] "all_standings" (defScope s_all_standings) f cdv A outer s H E).A.units + 65 < cLine := hu_room hr
  have hx : Lets (cxOf (CX P w) P w K mg base ["rooms", "x", "y", "inner", "room"] "all_standings" (defScope s_all_standings) f cdv A outer s H E) E := lets_def (takes_of rfl rfl rfl rfl)
  have ho : PassesOwn (model P w) (cxOf (CX P w) P w K mg base ["rooms", "x", "y", "inner", "room"] "all_standings" (defScope s_all_standings) f cdv A outer s H E).A (cxOf (CX P w) P w K mg base ["rooms", "x", "y", "inner", "room"] "all_standings" (defScope s_all_standings) f cdv A outer s H E).env (cxOf (CX P w) P w K mg base ["rooms", "x", "y", "inner", "room"] "all_standings" (defScope s_all_standings) f cdv A outer s H E).xe := passes_of rfl
  exact (ess_cons (by first | exact (es_setLc (own := [(("room" : Str), 4)]) mLst_end rfl nd rfl rfl (sw_true rfl rfl rfl (by decide +kernel)) (ei_rg1 rfl F.n_range (ev_ix hu (ev_name 0) (ev_name 2))) (blkOk_by (by first | decide +kernel | rfl)) (fun D s H C cl fp => (egw_name 4 nd)) (fun D s H C cl fp => ets_nil) (fun D s H C cl fp => (ev_tup (ea_cons ev_str (ea_cons (ev_name 4) ea_nil))))) | exact (es_set 3 nd (ev_lc (own := [(("room" : Str), 4)]) mLst_end rfl nd (ei_rg1 rfl F.n_range (ev_ix hu (ev_name 0) (ev_name 2))) (blkOk_by (by first | decide +kernel | rfl)) (fun D s H C cl fp => (egw_name 4 nd)) (fun D s H C cl fp => ets_nil) (fun D s H C cl fp => (ev_tup (ea_cons ev_str (ea_cons (ev_name 4) ea_nil)))))))
  (ess_one (es_ret (ev_add (ev_add (ev_tup (ea_cons (ev_gtupX rfl F.t_APART) ea_nil)) (ev_tupC rfl F.n_tuple (ea_cons (ev_name 3) ea_nil))) (ev_tupC rfl F.n_tuple (ea_cons (ev_lc (own := [(("room" : Str), 4)]) mLst_end rfl nd (ei_rg1 rfl F.n_range (ev_ix hu (ev_name 0) (ev_name 1))) (blkOk_by (by first | decide +kernel | rfl)) (fun D s H C cl fp => (egw_name 4 nd)) (fun D s H C cl fp => ets_nil) (fun D s H C cl fp => (ev_tup (ea_cons ev_str (ea_cons (ev_name 4) ea_nil))))) ea_nil))))))
theorem ok_all_standings (F : Fx K mg) : Cal P w K mg base 1 "all_standings" ["rooms", "x", "y"] Lib.all_standings := by
  obtain ⟨f, fd, D, hm⟩ := F.d_all_standings
  exact ⟨f, fd, fn_all_standings F D, hm, D.kp, D.bindsN fun _ _ _ _ _ _ us hl => match us, hl with | [_, _, _], _ => rfl⟩

theorem sc_is_standing : FnScope ["rooms", "x", "y", "thing"] ["rooms", "x", "y", "thing"] (defScope s_is_standing) := ⟨rfl, rfl, rfl, by decide +kernel, rfl, by decide +kernel, by decide +kernel⟩
theorem fn_is_standing (F : Fx K mg) {f : Addr} {fd : FuncData} (D : FunD K "is_standing" "is_standing" (defArgs s_is_standing) (defBody s_is_standing) (defScope s_is_standing) [] [] f fd) : FnD P w K mg base 2 f fd ["rooms", "x", "y", "thing"] Lib.is_standing := by
  have nd := sc_is_standing.nd
  refine fn_ok (N := ["rooms", "x", "y", "thing"]) (ps := ["rooms", "x", "y", "thing"]) D sc_is_standing (fun T cdv A outer s H E hr => ?_)
  have hu : (cxOf (CX P w) P w K mg base ["rooms", "x", "y", "thing"] "is_standing" (defScope s_is_standing) f cdv A outer s H E).A.units + 65 < cLine := hu_room hr
  have hx : Lets (cxOf (CX P w) P w K mg base ["rooms", "x", "y", "thing"] "is_standing" (defScope s_is_standing) f cdv A outer s H E) E := lets_def (takes_of rfl rfl rfl rfl)
  have ho : PassesOwn (model P w) (cxOf (CX P w) P w K mg base ["rooms", "x", "y", "thing"] "is_standing" (defScope s_is_standing) f cdv A outer s H E).A (cxOf (CX P w) P w K mg base ["rooms", "x", "y", "thing"] "is_standing" (defScope s_is_standing) f cdv A outer s H E).env (cxOf (CX P w) P w K mg base ["rooms", "x", "y", "thing"] "is_standing" (defScope s_is_standing) f cdv A outer s H E).xe := passes_of rfl
  exact (ess_cons (es_if (eb_w (ew_or (eb_not (eb_truth (ev_isi rfl F.n_isinstance (ea_cons (ev_name 3) (ea_cons (ev_bty rfl F.n_tuple (by decide +kernel)) ea_nil))))) (ew_or (eb_ne hu (ev_len rfl F.n_len (ea_cons (ev_name 3) ea_nil)) ev_int) (ew_or (eb_not (eb_truth (ev_isi rfl F.n_isinstance (ea_cons (ev_ix hu (ev_name 3) ev_int) (ea_cons (ev_bty rfl F.n_str (by decide +kernel)) ea_nil))))) (ew_or1 (eb_not (eb_truth (ev_cal (ok_is_whole F) (hr.mono (by decide)) rfl hx (ea_cons (ev_ix hu (ev_name 3) ev_int) ea_nil))))))))) (ess_one (es_ret ev_bl)) ess_nil)
  (ess_one (es_ret (ev_in hu (ev_name 3) (ev_cal (ok_all_standings F) (hr.mono (by decide)) rfl hx (ea_cons (ev_name 0) (ea_cons (ev_name 1) (ea_cons (ev_name 2) ea_nil))))))))
theorem ok_is_standing (F : Fx K mg) : Cal P w K mg base 2 "is_standing" ["rooms", "x", "y", "thing"] Lib.is_standing := by
  obtain ⟨f, fd, D, hm⟩ := F.d_is_standing
  exact ⟨f, fd, fn_is_standing F D, hm, D.kp, D.bindsN fun _ _ _ _ _ _ us hl => match us, hl with | [_, _, _, _], _ => rfl⟩

theorem sc_is_lets : FnScope ["rooms", "x", "y", "lets", "order", "before", "standing", "place"] ["rooms", "x", "y", "lets"] (defScope s_is_lets) := ⟨rfl, rfl, rfl, by decide +kernel, rfl, by decide +kernel, by decide +kernel⟩
theorem fn_is_lets (F : Fx K mg) {f : Addr} {fd : FuncData} (D : FunD K "is_lets" "is_lets" (defArgs s_is_lets) (defBody s_is_lets) (defScope s_is_lets) [] [] f fd) : FnD P w K mg base 3 f fd ["rooms", "x", "y", "lets"] Lib.is_lets := by
  have nd := sc_is_lets.nd
  refine fn_ok (N := ["rooms", "x", "y", "lets", "order", "before", "standing", "place"]) (ps := ["rooms", "x", "y", "lets"]) D sc_is_lets (fun T cdv A outer s H E hr => ?_)
  have hu : (cxOf (CX P w) P w K mg base ["rooms", "x", "y", "lets", "order", "before", "standing", "place"] "is_lets" (defScope s_is_lets) f cdv A outer s H E).A.units + 65 < cLine := hu_room hr
  have hx : Lets (cxOf (CX P w) P w K mg base ["rooms", "x", "y", "lets", "order", "before", "standing", "place"] "is_lets" (defScope s_is_lets) f cdv A outer s H E) E := lets_def (takes_of rfl rfl rfl rfl)
  have ho : PassesOwn (model P w) (cxOf (CX P w) P w K mg base ["rooms", "x", "y", "lets", "order", "before", "standing", "place"] "is_lets" (defScope s_is_lets) f cdv A outer s H E).A (cxOf (CX P w) P w K mg base ["rooms", "x", "y", "lets", "order", "before", "standing", "place"] "is_lets" (defScope s_is_lets) f cdv A outer s H E).env (cxOf (CX P w) P w K mg base ["rooms", "x", "y", "lets", "order", "before", "standing", "place"] "is_lets" (defScope s_is_lets) f cdv A outer s H E).xe := passes_of rfl
  exact (ess_cons (es_if (eb_not (eb_truth (ev_isi rfl F.n_isinstance (ea_cons (ev_name 3) (ea_cons (ev_bty rfl F.n_tuple (by decide +kernel)) ea_nil))))) (ess_one (es_ret ev_bl)) ess_nil)
  (ess_cons (es_set 4 nd (ev_cal (ok_all_standings F) (hr.mono (by decide)) rfl hx (ea_cons (ev_name 0) (ea_cons (ev_name 1) (ea_cons (ev_name 2) ea_nil)))))
  (ess_cons (es_set 5 nd (ev_neg ev_int))
  (ess_cons (es_for [6, 7] ho rfl (ei_seq (ev_name 3)) (eg_name 6 nd) (ess_cons (es_if (eb_not (eb_truth (ev_cal (ok_is_standing F) (hr.mono (by decide)) rfl hx (ea_cons (ev_name 0) (ea_cons (ev_name 1) (ea_cons (ev_name 2) (ea_cons (ev_name 6) ea_nil))))))) (ess_one (es_ret ev_bl)) ess_nil)
  (ess_cons (es_set 7 nd (ev_indexT hu (ev_name 4) (ev_name 6)))
  (ess_cons (es_if (eb_le (ev_name 7) (ev_name 5)) (ess_one (es_ret ev_bl)) ess_nil)
  (ess_one (es_set 5 nd (ev_name 7)))))))
  (ess_one (es_ret ev_bl))))))
theorem ok_is_lets (F : Fx K mg) : Cal P w K mg base 3 "is_lets" ["rooms", "x", "y", "lets"] Lib.is_lets := by
  obtain ⟨f, fd, D, hm⟩ := F.d_is_lets
  exact ⟨f, fd, fn_is_lets F D, hm, D.kp, D.bindsN fun _ _ _ _ _ _ us hl => match us, hl with | [_, _, _, _], _ => rfl⟩

theorem sc_is_thing : FnScope ["rooms", "x"] ["rooms", "x"] (defScope s_is_thing) := ⟨rfl, rfl, rfl, by decide +kernel, rfl, by decide +kernel, by decide +kernel⟩
theorem fn_is_thing (F : Fx K mg) {f : Addr} {fd : FuncData} (D : FunD K "is_thing" "is_thing" (defArgs s_is_thing) (defBody s_is_thing) (defScope s_is_thing) [] [] f fd) : FnD P w K mg base 2 f fd ["rooms", "x"] Lib.is_thing := by
  have nd := sc_is_thing.nd
  refine fn_ok (N := ["rooms", "x"]) (ps := ["rooms", "x"]) D sc_is_thing (fun T cdv A outer s H E hr => ?_)
  have hu : (cxOf (CX P w) P w K mg base ["rooms", "x"] "is_thing" (defScope s_is_thing) f cdv A outer s H E).A.units + 65 < cLine := hu_room hr
  have hx : Lets (cxOf (CX P w) P w K mg base ["rooms", "x"] "is_thing" (defScope s_is_thing) f cdv A outer s H E) E := lets_def (takes_of rfl rfl rfl rfl)
  have ho : PassesOwn (model P w) (cxOf (CX P w) P w K mg base ["rooms", "x"] "is_thing" (defScope s_is_thing) f cdv A outer s H E).A (cxOf (CX P w) P w K mg base ["rooms", "x"] "is_thing" (defScope s_is_thing) f cdv A outer s H E).env (cxOf (CX P w) P w K mg base ["rooms", "x"] "is_thing" (defScope s_is_thing) f cdv A outer s H E).xe := passes_of rfl
  exact (ess_one (es_ret (ev_and (ev_cal (ok_is_whole F) (hr.mono (by decide)) rfl hx (ea_cons (ev_name 1) ea_nil)) (ev_one (ev_chainI op_le op_lt ev_int (ev_name 1) (ev_len rfl F.n_len (ea_cons (ev_name 0) ea_nil)))))))
theorem ok_is_thing (F : Fx K mg) : Cal P w K mg base 2 "is_thing" ["rooms", "x"] Lib.is_thing := by
  obtain ⟨f, fd, D, hm⟩ := F.d_is_thing
  exact ⟨f, fd, fn_is_thing F D, hm, D.kp, D.bindsN fun _ _ _ _ _ _ us hl => match us, hl with | [_, _], _ => rfl⟩

theorem sc_says_right : FnScope ["rooms", "saying", "x", "y", "lets"] ["rooms", "saying"] (defScope s_says_right) := ⟨rfl, rfl, rfl, by decide +kernel, rfl, by decide +kernel, by decide +kernel⟩
theorem fn_says_right (F : Fx K mg) {f : Addr} {fd : FuncData} (D : FunD K "says_right" "says_right" (defArgs s_says_right) (defBody s_says_right) (defScope s_says_right) [] [] f fd) : FnD P w K mg base 4 f fd ["rooms", "saying"] Lib.says_right := by
  have nd := sc_says_right.nd
  refine fn_ok (N := ["rooms", "saying", "x", "y", "lets"]) (ps := ["rooms", "saying"]) D sc_says_right (fun T cdv A outer s H E hr => ?_)
  have hu : (cxOf (CX P w) P w K mg base ["rooms", "saying", "x", "y", "lets"] "says_right" (defScope s_says_right) f cdv A outer s H E).A.units + 65 < cLine := hu_room hr
  have hx : Lets (cxOf (CX P w) P w K mg base ["rooms", "saying", "x", "y", "lets"] "says_right" (defScope s_says_right) f cdv A outer s H E) E := lets_def (takes_of rfl rfl rfl rfl)
  have ho : PassesOwn (model P w) (cxOf (CX P w) P w K mg base ["rooms", "saying", "x", "y", "lets"] "says_right" (defScope s_says_right) f cdv A outer s H E).A (cxOf (CX P w) P w K mg base ["rooms", "saying", "x", "y", "lets"] "says_right" (defScope s_says_right) f cdv A outer s H E).env (cxOf (CX P w) P w K mg base ["rooms", "saying", "x", "y", "lets"] "says_right" (defScope s_says_right) f cdv A outer s H E).xe := passes_of rfl
  exact (ess_cons (es_if (eb_w (ew_or (eb_not (eb_truth (ev_isi rfl F.n_isinstance (ea_cons (ev_name 1) (ea_cons (ev_bty rfl F.n_tuple (by decide +kernel)) ea_nil))))) (ew_or1 (eb_ne hu (ev_len rfl F.n_len (ea_cons (ev_name 1) ea_nil)) ev_int)))) (ess_one (es_ret ev_bl)) ess_nil)
  (ess_cons (es_asg (ev_name 1) (eg_tup rfl (egs_cons (eg_name 2 nd) (egs_cons (eg_name 3 nd) (egs_cons (eg_name 4 nd) egs_nil)))))
  (ess_cons (es_if (eb_w (ew_or (eb_not (eb_truth (ev_cal (ok_is_thing F) (hr.mono (by decide)) rfl hx (ea_cons (ev_name 0) (ea_cons (ev_name 2) ea_nil))))) (ew_or (eb_not (eb_truth (ev_cal (ok_is_thing F) (hr.mono (by decide)) rfl hx (ea_cons (ev_name 0) (ea_cons (ev_name 3) ea_nil))))) (ew_or1 (eb_eq hu (ev_name 2) (ev_name 3)))))) (ess_one (es_ret ev_bl)) ess_nil)
  (ess_one (es_ret (ev_cal (ok_is_lets F) (hr.mono (by decide)) rfl hx (ea_cons (ev_name 0) (ea_cons (ev_name 2) (ea_cons (ev_name 3) (ea_cons (ev_name 4) ea_nil))))))))))
theorem ok_says_right (F : Fx K mg) : Cal P w K mg base 4 "says_right" ["rooms", "saying"] Lib.says_right := by
  obtain ⟨f, fd, D, hm⟩ := F.d_says_right
  exact ⟨f, fd, fn_says_right F D, hm, D.kp, D.bindsN fun _ _ _ _ _ _ us hl => match us, hl with | [_, _], _ => rfl⟩

theorem sc_first_wrong : FnScope ["rooms", "sayings", "index", "saying"] ["rooms", "sayings"] (defScope s_first_wrong) := ⟨rfl, rfl, rfl, by decide +kernel, rfl, by decide +kernel, by decide +kernel⟩
theorem fn_first_wrong (F : Fx K mg) {f : Addr} {fd : FuncData} (D : FunD K "first_wrong" "first_wrong" (defArgs s_first_wrong) (defBody s_first_wrong) (defScope s_first_wrong) [] [] f fd) : FnD P w K mg base 5 f fd ["rooms", "sayings"] Lib.first_wrong := by
  have nd := sc_first_wrong.nd
  refine fn_ok (N := ["rooms", "sayings", "index", "saying"]) (ps := ["rooms", "sayings"]) D sc_first_wrong (fun T cdv A outer s H E hr => ?_)
  have hu : (cxOf (CX P w) P w K mg base ["rooms", "sayings", "index", "saying"] "first_wrong" (defScope s_first_wrong) f cdv A outer s H E).A.units + 65 < cLine := hu_room hr
  have hx : Lets (cxOf (CX P w) P w K mg base ["rooms", "sayings", "index", "saying"] "first_wrong" (defScope s_first_wrong) f cdv A outer s H E) E := lets_def (takes_of rfl rfl rfl rfl)
  have ho : PassesOwn (model P w) (cxOf (CX P w) P w K mg base ["rooms", "sayings", "index", "saying"] "first_wrong" (defScope s_first_wrong) f cdv A outer s H E).A (cxOf (CX P w) P w K mg base ["rooms", "sayings", "index", "saying"] "first_wrong" (defScope s_first_wrong) f cdv A outer s H E).env (cxOf (CX P w) P w K mg base ["rooms", "sayings", "index", "saying"] "first_wrong" (defScope s_first_wrong) f cdv A outer s H E).xe := passes_of rfl
  exact (ess_cons (es_for [2, 3] ho rfl (ei_enum rfl F.n_enumerate (ev_name 1)) (eg_tup rfl (egs_cons (eg_name 2 nd) (egs_cons (eg_name 3 nd) egs_nil))) (ess_one (es_if (eb_not (eb_truth (ev_cal (ok_says_right F) (hr.mono (by decide)) rfl hx (ea_cons (ev_name 0) (ea_cons (ev_name 3) ea_nil))))) (ess_one (es_ret (ev_name 2))) ess_nil)))
  (ess_one (es_ret ev_non)))
theorem ok_first_wrong (F : Fx K mg) : Cal P w K mg base 5 "first_wrong" ["rooms", "sayings"] Lib.first_wrong := by
  obtain ⟨f, fd, D, hm⟩ := F.d_first_wrong
  exact ⟨f, fd, fn_first_wrong F D, hm, D.kp, D.bindsN fun _ _ _ _ _ _ us hl => match us, hl with | [_, _], _ => rfl⟩

theorem sc_is_book : FnScope ["thing"] ["thing"] (defScope s_is_book) := ⟨rfl, rfl, rfl, by decide +kernel, rfl, by decide +kernel, by decide +kernel⟩
theorem fn_is_book (F : Fx K mg) {f : Addr} {fd : FuncData} (D : FunD K "is_book" "is_book" (defArgs s_is_book) (defBody s_is_book) (defScope s_is_book) [] [] f fd) : FnD P w K mg base 6 f fd ["thing"] Lib.is_book := by
  have nd := sc_is_book.nd
  refine fn_ok (N := ["thing"]) (ps := ["thing"]) D sc_is_book (fun T cdv A outer s H E hr => ?_)
  have hu : (cxOf (CX P w) P w K mg base ["thing"] "is_book" (defScope s_is_book) f cdv A outer s H E).A.units + 65 < cLine := hu_room hr
  have hx : Lets (cxOf (CX P w) P w K mg base ["thing"] "is_book" (defScope s_is_book) f cdv A outer s H E) E := lets_def (takes_of rfl rfl rfl rfl)
  have ho : PassesOwn (model P w) (cxOf (CX P w) P w K mg base ["thing"] "is_book" (defScope s_is_book) f cdv A outer s H E).A (cxOf (CX P w) P w K mg base ["thing"] "is_book" (defScope s_is_book) f cdv A outer s H E).env (cxOf (CX P w) P w K mg base ["thing"] "is_book" (defScope s_is_book) f cdv A outer s H E).xe := passes_of rfl
  exact (ess_cons (es_if (eb_w (ew_or (eb_not (eb_truth (ev_cal (ok_is_pair F) (hr.mono (by decide)) rfl hx (ea_cons (ev_name 0) ea_nil)))) (ew_or (eb_not (eb_truth (ev_cal (ok_is_rooms F) (hr.mono (by decide)) rfl hx (ea_cons (ev_ix hu (ev_name 0) ev_int) ea_nil)))) (ew_or1 (eb_not (eb_truth (ev_isi rfl F.n_isinstance (ea_cons (ev_ix hu (ev_name 0) ev_int) (ea_cons (ev_bty rfl F.n_tuple (by decide +kernel)) ea_nil))))))))) (ess_one (es_ret ev_bl)) ess_nil)
  (ess_one (es_ret (ev_and (ev_le (ev_len rfl F.n_len (ea_cons (ev_ix hu (ev_name 0) ev_int) ea_nil)) (ev_gint rfl F.c_MOST_SAYINGS)) (ev_one (ev_is (ev_cal (ok_first_wrong F) (hr.mono (by decide)) rfl hx (ea_cons (ev_ix hu (ev_name 0) ev_int) (ea_cons (ev_ix hu (ev_name 0) ev_int) ea_nil))) ev_non))))))
theorem ok_is_book (F : Fx K mg) : Cal P w K mg base 6 "is_book" ["thing"] Lib.is_book := by
  obtain ⟨f, fd, D, hm⟩ := F.d_is_book
  exact ⟨f, fd, fn_is_book F D, hm, D.kp, D.bindsN fun _ _ _ _ _ _ us hl => match us, hl with | [_], _ => rfl⟩

theorem sc_is_place : FnScope ["rooms", "x", "place", "holder", "room"] ["rooms", "x", "place"] (defScope s_is_place) := ⟨rfl, rfl, rfl, by decide +kernel, rfl, by decide +kernel, by decide +kernel⟩
theorem fn_is_place (F : Fx K mg) {f : Addr} {fd : FuncData} (D : FunD K "is_place" "is_place" (defArgs s_is_place) (defBody s_is_place) (defScope s_is_place) [] [] f fd) : FnD P w K mg base 2 f fd ["rooms", "x", "place"] Lib.is_place := by
  have nd := sc_is_place.nd
  refine fn_ok (N := ["rooms", "x", "place", "holder", "room"]) (ps := ["rooms", "x", "place"]) D sc_is_place (fun T cdv A outer s H E hr => ?_)
  have hu : (cxOf (CX P w) P w K mg base ["rooms", "x", "place", "holder", "room"] "is_place" (defScope s_is_place) f cdv A outer s H E).A.units + 65 < cLine := hu_room hr
  have hx : Lets (cxOf (CX P w) P w K mg base ["rooms", "x", "place", "holder", "room"] "is_place" (defScope s_is_place) f cdv A outer s H E) E := lets_def (takes_of rfl rfl rfl rfl)
  have ho : PassesOwn (model P w) (cxOf (CX P w) P w K mg base ["rooms", "x", "place", "holder", "room"] "is_place" (defScope s_is_place) f cdv A outer s H E).A (cxOf (CX P w) P w K mg base ["rooms", "x", "place", "holder", "room"] "is_place" (defScope s_is_place) f cdv A outer s H E).env (cxOf (CX P w) P w K mg base ["rooms", "x", "place", "holder", "room"] "is_place" (defScope s_is_place) f cdv A outer s H E).xe := passes_of rfl
  exact (ess_cons (es_if (eb_is (ev_name 2) ev_non) (ess_one (es_ret ev_bl)) ess_nil)
  (ess_cons (es_if (eb_w (ew_or (eb_not (eb_truth (ev_isi rfl F.n_isinstance (ea_cons (ev_name 2) (ea_cons (ev_bty rfl F.n_tuple (by decide +kernel)) ea_nil))))) (ew_or (eb_ne hu (ev_len rfl F.n_len (ea_cons (ev_name 2) ea_nil)) ev_int) (ew_or (eb_not (eb_truth (ev_cal (ok_is_whole F) (hr.mono (by decide)) rfl hx (ea_cons (ev_ix hu (ev_name 2) ev_int) ea_nil)))) (ew_or1 (eb_not (eb_truth (ev_cal (ok_is_whole F) (hr.mono (by decide)) rfl hx (ea_cons (ev_ix hu (ev_name 2) ev_int) ea_nil))))))))) (ess_one (es_ret ev_bl)) ess_nil)
  (ess_cons (es_asg (ev_name 2) (eg_tup rfl (egs_cons (eg_name 3 nd) (egs_cons (eg_name 4 nd) egs_nil))))
  (ess_one (es_ret (ev_and (ev_chainI op_le op_lt ev_int (ev_name 3) (ev_len rfl F.n_len (ea_cons (ev_name 0) ea_nil))) (ev_and (ev_ne hu (ev_name 3) (ev_name 1)) (ev_one (ev_chainI op_le op_lt ev_int (ev_name 4) (ev_ix hu (ev_name 0) (ev_name 3)))))))))))
theorem ok_is_place (F : Fx K mg) : Cal P w K mg base 2 "is_place" ["rooms", "x", "place"] Lib.is_place := by
  obtain ⟨f, fd, D, hm⟩ := F.d_is_place
  exact ⟨f, fd, fn_is_place F D, hm, D.kp, D.bindsN fun _ _ _ _ _ _ us hl => match us, hl with | [_, _, _], _ => rfl⟩

theorem sc_first_bad : FnScope ["rooms", "forest", "x", "place"] ["rooms", "forest"] (defScope s_first_bad) := ⟨rfl, rfl, rfl, by decide +kernel, rfl, by decide +kernel, by decide +kernel⟩
theorem fn_first_bad (F : Fx K mg) {f : Addr} {fd : FuncData} (D : FunD K "first_bad" "first_bad" (defArgs s_first_bad) (defBody s_first_bad) (defScope s_first_bad) [] [] f fd) : FnD P w K mg base 3 f fd ["rooms", "forest"] Lib.first_bad := by
  have nd := sc_first_bad.nd
  refine fn_ok (N := ["rooms", "forest", "x", "place"]) (ps := ["rooms", "forest"]) D sc_first_bad (fun T cdv A outer s H E hr => ?_)
  have hu : (cxOf (CX P w) P w K mg base ["rooms", "forest", "x", "place"] "first_bad" (defScope s_first_bad) f cdv A outer s H E).A.units + 65 < cLine := hu_room hr
  have hx : Lets (cxOf (CX P w) P w K mg base ["rooms", "forest", "x", "place"] "first_bad" (defScope s_first_bad) f cdv A outer s H E) E := lets_def (takes_of rfl rfl rfl rfl)
  have ho : PassesOwn (model P w) (cxOf (CX P w) P w K mg base ["rooms", "forest", "x", "place"] "first_bad" (defScope s_first_bad) f cdv A outer s H E).A (cxOf (CX P w) P w K mg base ["rooms", "forest", "x", "place"] "first_bad" (defScope s_first_bad) f cdv A outer s H E).env (cxOf (CX P w) P w K mg base ["rooms", "forest", "x", "place"] "first_bad" (defScope s_first_bad) f cdv A outer s H E).xe := passes_of rfl
  exact (ess_cons (es_for [2, 3] ho rfl (ei_enum rfl F.n_enumerate (ev_name 1)) (eg_tup rfl (egs_cons (eg_name 2 nd) (egs_cons (eg_name 3 nd) egs_nil))) (ess_one (es_if (eb_not (eb_truth (ev_cal (ok_is_place F) (hr.mono (by decide)) rfl hx (ea_cons (ev_name 0) (ea_cons (ev_name 2) (ea_cons (ev_name 3) ea_nil)))))) (ess_one (es_ret (ev_name 2))) ess_nil)))
  (ess_one (es_ret ev_non)))
theorem ok_first_bad (F : Fx K mg) : Cal P w K mg base 3 "first_bad" ["rooms", "forest"] Lib.first_bad := by
  obtain ⟨f, fd, D, hm⟩ := F.d_first_bad
  exact ⟨f, fd, fn_first_bad F D, hm, D.kp, D.bindsN fun _ _ _ _ _ _ us hl => match us, hl with | [_, _], _ => rfl⟩

theorem sc_lies_in_itself : FnScope ["forest", "x", "here", "_"] ["forest", "x"] (defScope s_lies_in_itself) := ⟨rfl, rfl, rfl, by decide +kernel, rfl, by decide +kernel, by decide +kernel⟩
theorem fn_lies_in_itself (F : Fx K mg) {f : Addr} {fd : FuncData} (D : FunD K "lies_in_itself" "lies_in_itself" (defArgs s_lies_in_itself) (defBody s_lies_in_itself) (defScope s_lies_in_itself) [] [] f fd) : FnD P w K mg base 1 f fd ["forest", "x"] Lib.lies_in_itself := by
  have nd := sc_lies_in_itself.nd
  refine fn_ok (N := ["forest", "x", "here", "_"]) (ps := ["forest", "x"]) D sc_lies_in_itself (fun T cdv A outer s H E hr => ?_)
  have hu : (cxOf (CX P w) P w K mg base ["forest", "x", "here", "_"] "lies_in_itself" (defScope s_lies_in_itself) f cdv A outer s H E).A.units + 65 < cLine := hu_room hr
  have hx : Lets (cxOf (CX P w) P w K mg base ["forest", "x", "here", "_"] "lies_in_itself" (defScope s_lies_in_itself) f cdv A outer s H E) E := lets_def (takes_of rfl rfl rfl rfl)
  have ho : PassesOwn (model P w) (cxOf (CX P w) P w K mg base ["forest", "x", "here", "_"] "lies_in_itself" (defScope s_lies_in_itself) f cdv A outer s H E).A (cxOf (CX P w) P w K mg base ["forest", "x", "here", "_"] "lies_in_itself" (defScope s_lies_in_itself) f cdv A outer s H E).env (cxOf (CX P w) P w K mg base ["forest", "x", "here", "_"] "lies_in_itself" (defScope s_lies_in_itself) f cdv A outer s H E).xe := passes_of rfl
  exact (ess_cons (es_set 2 nd (ev_name 1))
  (ess_cons (es_for [3] ho rfl (ei_rg1 rfl F.n_range (ev_len rfl F.n_len (ea_cons (ev_name 0) ea_nil))) (eg_name 3 nd) (ess_cons (es_if (eb_is (ev_ix hu (ev_name 0) (ev_name 2)) ev_non) (ess_one (es_ret ev_bl)) ess_nil)
  (ess_cons (es_set 2 nd (ev_ix hu (ev_ix hu (ev_name 0) (ev_name 2)) ev_int))
  (ess_one (es_if (eb_eq hu (ev_name 2) (ev_name 1)) (ess_one (es_ret ev_bl)) ess_nil)))))
  (ess_one (es_ret ev_bl))))
theorem ok_lies_in_itself (F : Fx K mg) : Cal P w K mg base 1 "lies_in_itself" ["forest", "x"] Lib.lies_in_itself := by
  obtain ⟨f, fd, D, hm⟩ := F.d_lies_in_itself
  exact ⟨f, fd, fn_lies_in_itself F D, hm, D.kp, D.bindsN fun _ _ _ _ _ _ us hl => match us, hl with | [_, _], _ => rfl⟩

theorem sc_first_ring : FnScope ["forest", "x"] ["forest"] (defScope s_first_ring) := ⟨rfl, rfl, rfl, by decide +kernel, rfl, by decide +kernel, by decide +kernel⟩
theorem fn_first_ring (F : Fx K mg) {f : Addr} {fd : FuncData} (D : FunD K "first_ring" "first_ring" (defArgs s_first_ring) (defBody s_first_ring) (defScope s_first_ring) [] [] f fd) : FnD P w K mg base 2 f fd ["forest"] Lib.first_ring := by
  have nd := sc_first_ring.nd
  refine fn_ok (N := ["forest", "x"]) (ps := ["forest"]) D sc_first_ring (fun T cdv A outer s H E hr => ?_)
  have hu : (cxOf (CX P w) P w K mg base ["forest", "x"] "first_ring" (defScope s_first_ring) f cdv A outer s H E).A.units + 65 < cLine := hu_room hr
  have hx : Lets (cxOf (CX P w) P w K mg base ["forest", "x"] "first_ring" (defScope s_first_ring) f cdv A outer s H E) E := lets_def (takes_of rfl rfl rfl rfl)
  have ho : PassesOwn (model P w) (cxOf (CX P w) P w K mg base ["forest", "x"] "first_ring" (defScope s_first_ring) f cdv A outer s H E).A (cxOf (CX P w) P w K mg base ["forest", "x"] "first_ring" (defScope s_first_ring) f cdv A outer s H E).env (cxOf (CX P w) P w K mg base ["forest", "x"] "first_ring" (defScope s_first_ring) f cdv A outer s H E).xe := passes_of rfl
  exact (ess_cons (es_for [1] ho rfl (ei_rg1 rfl F.n_range (ev_len rfl F.n_len (ea_cons (ev_name 0) ea_nil))) (eg_name 1 nd) (ess_one (es_if (eb_truth (ev_cal (ok_lies_in_itself F) (hr.mono (by decide)) rfl hx (ea_cons (ev_name 0) (ea_cons (ev_name 1) ea_nil)))) (ess_one (es_ret (ev_name 1))) ess_nil)))
  (ess_one (es_ret ev_non)))
theorem ok_first_ring (F : Fx K mg) : Cal P w K mg base 2 "first_ring" ["forest"] Lib.first_ring := by
  obtain ⟨f, fd, D, hm⟩ := F.d_first_ring
  exact ⟨f, fd, fn_first_ring F D, hm, D.kp, D.bindsN fun _ _ _ _ _ _ us hl => match us, hl with | [_], _ => rfl⟩

theorem sc_is_forest : FnScope ["rooms", "forest"] ["rooms", "forest"] (defScope s_is_forest) := ⟨rfl, rfl, rfl, by decide +kernel, rfl, by decide +kernel, by decide +kernel⟩
theorem fn_is_forest (F : Fx K mg) {f : Addr} {fd : FuncData} (D : FunD K "is_forest" "is_forest" (defArgs s_is_forest) (defBody s_is_forest) (defScope s_is_forest) [] [] f fd) : FnD P w K mg base 4 f fd ["rooms", "forest"] Lib.is_forest := by
  have nd := sc_is_forest.nd
  refine fn_ok (N := ["rooms", "forest"]) (ps := ["rooms", "forest"]) D sc_is_forest (fun T cdv A outer s H E hr => ?_)
  have hu : (cxOf (CX P w) P w K mg base ["rooms", "forest"] "is_forest" (defScope s_is_forest) f cdv A outer s H E).A.units + 65 < cLine := hu_room hr
  have hx : Lets (cxOf (CX P w) P w K mg base ["rooms", "forest"] "is_forest" (defScope s_is_forest) f cdv A outer s H E) E := lets_def (takes_of rfl rfl rfl rfl)
  have ho : PassesOwn (model P w) (cxOf (CX P w) P w K mg base ["rooms", "forest"] "is_forest" (defScope s_is_forest) f cdv A outer s H E).A (cxOf (CX P w) P w K mg base ["rooms", "forest"] "is_forest" (defScope s_is_forest) f cdv A outer s H E).env (cxOf (CX P w) P w K mg base ["rooms", "forest"] "is_forest" (defScope s_is_forest) f cdv A outer s H E).xe := passes_of rfl
  exact (ess_cons (es_if (eb_w (ew_or (eb_not (eb_truth (ev_cal (ok_is_rooms F) (hr.mono (by decide)) rfl hx (ea_cons (ev_name 0) ea_nil)))) (ew_or (eb_not (eb_truth (ev_isi rfl F.n_isinstance (ea_cons (ev_name 1) (ea_cons (ev_bty rfl F.n_tuple (by decide +kernel)) ea_nil))))) (ew_or1 (eb_ne hu (ev_len rfl F.n_len (ea_cons (ev_name 1) ea_nil)) (ev_len rfl F.n_len (ea_cons (ev_name 0) ea_nil))))))) (ess_one (es_ret ev_bl)) ess_nil)
  (ess_one (es_ret (ev_and (ev_is (ev_cal (ok_first_bad F) (hr.mono (by decide)) rfl hx (ea_cons (ev_name 0) (ea_cons (ev_name 1) ea_nil))) ev_non) (ev_one (ev_is (ev_cal (ok_first_ring F) (hr.mono (by decide)) rfl hx (ea_cons (ev_name 1) ea_nil)) ev_non))))))
theorem ok_is_forest (F : Fx K mg) : Cal P w K mg base 4 "is_forest" ["rooms", "forest"] Lib.is_forest := by
  obtain ⟨f, fd, D, hm⟩ := F.d_is_forest
  exact ⟨f, fd, fn_is_forest F D, hm, D.kp, D.bindsN fun _ _ _ _ _ _ us hl => match us, hl with | [_, _], _ => rfl⟩

theorem sc_keeps : FnScope ["book", "forest"] ["book", "forest"] (defScope s_keeps) := ⟨rfl, rfl, rfl, by decide +kernel, rfl, by decide +kernel, by decide +kernel⟩
theorem fn_keeps (F : Fx K mg) {f : Addr} {fd : FuncData} (D : FunD K "keeps" "keeps" (defArgs s_keeps) (defBody s_keeps) (defScope s_keeps) [] [] f fd) : FnD P w K mg base 7 f fd ["book", "forest"] Lib.keeps := by
  have nd := sc_keeps.nd
  refine fn_ok (N := ["book", "forest"]) (ps := ["book", "forest"]) D sc_keeps (fun T cdv A outer s H E hr => ?_)
  have hu : (cxOf (CX P w) P w K mg base ["book", "forest"] "keeps" (defScope s_keeps) f cdv A outer s H E).A.units + 65 < cLine := hu_room hr
  have hx : Lets (cxOf (CX P w) P w K mg base ["book", "forest"] "keeps" (defScope s_keeps) f cdv A outer s H E) E := lets_def (takes_of rfl rfl rfl rfl)
  have ho : PassesOwn (model P w) (cxOf (CX P w) P w K mg base ["book", "forest"] "keeps" (defScope s_keeps) f cdv A outer s H E).A (cxOf (CX P w) P w K mg base ["book", "forest"] "keeps" (defScope s_keeps) f cdv A outer s H E).env (cxOf (CX P w) P w K mg base ["book", "forest"] "keeps" (defScope s_keeps) f cdv A outer s H E).xe := passes_of rfl
  exact (ess_cons (es_if (eb_w (ew_or (eb_not (eb_truth (ev_cal (ok_is_book F) (hr.mono (by decide)) rfl hx (ea_cons (ev_name 0) ea_nil)))) (ew_or1 (eb_not (eb_truth (ev_cal (ok_is_forest F) (hr.mono (by decide)) rfl hx (ea_cons (ev_ix hu (ev_name 0) ev_int) (ea_cons (ev_name 1) ea_nil)))))))) (ess_one (es_ret ev_bl)) ess_nil)
  (ess_one (es_ret (ev_is (ev_cal (ok_first_broken F) (hr.mono (by decide)) rfl hx (ea_cons (ev_name 0) (ea_cons (ev_name 1) ea_nil))) ev_non))))
theorem ok_keeps (F : Fx K mg) : Cal P w K mg base 7 "keeps" ["book", "forest"] Lib.keeps := by
  obtain ⟨f, fd, D, hm⟩ := F.d_keeps
  exact ⟨f, fd, fn_keeps F D, hm, D.kp, D.bindsN fun _ _ _ _ _ _ us hl => match us, hl with | [_, _], _ => rfl⟩

theorem sc__law_turned : FnScope ["_law_standing_here"] ["_law_standing_here"] (defScope s__law_turned) := ⟨rfl, rfl, rfl, by decide +kernel, rfl, by decide +kernel, by decide +kernel⟩
theorem fn__law_turned (F : Fx K mg) {f : Addr} {fd : FuncData} (D : FunD K "_law_turned" "_law_turned" (defArgs s__law_turned) (defBody s__law_turned) (defScope s__law_turned) [] [] f fd) : FnD P w K mg base 1 f fd ["_law_standing_here"] Lib._law_turned := by
  have nd := sc__law_turned.nd
  refine fn_ok (N := ["_law_standing_here"]) (ps := ["_law_standing_here"]) D sc__law_turned (fun T cdv A outer s H E hr => ?_)
  have hu : (cxOf (CX P w) P w K mg base ["_law_standing_here"] "_law_turned" (defScope s__law_turned) f cdv A outer s H E).A.units + 65 < cLine := hu_room hr
  have hx : Lets (cxOf (CX P w) P w K mg base ["_law_standing_here"] "_law_turned" (defScope s__law_turned) f cdv A outer s H E) E := lets_def (takes_of rfl rfl rfl rfl)
  have ho : PassesOwn (model P w) (cxOf (CX P w) P w K mg base ["_law_standing_here"] "_law_turned" (defScope s__law_turned) f cdv A outer s H E).A (cxOf (CX P w) P w K mg base ["_law_standing_here"] "_law_turned" (defScope s__law_turned) f cdv A outer s H E).env (cxOf (CX P w) P w K mg base ["_law_standing_here"] "_law_turned" (defScope s__law_turned) f cdv A outer s H E).xe := passes_of rfl
  exact (ess_one (es_ret (ev_tup (ea_cons (ev_ix hu (ev_disp (.inl rfl) (pps_cons (any_v fun D => ev_str) (any_v fun D => ev_str) (pps_cons (any_v fun D => ev_str) (any_v fun D => ev_str) (pps_cons (any_v fun D => ev_str) (any_v fun D => ev_str) pps_nil)))) (ev_ix hu (ev_name 0) ev_int)) (ea_cons (ev_ix hu (ev_name 0) ev_int) ea_nil)))))
theorem ok__law_turned (F : Fx K mg) : Cal P w K mg base 1 "_law_turned" ["_law_standing_here"] Lib._law_turned := by
  obtain ⟨f, fd, D, hm⟩ := F.d__law_turned
  exact ⟨f, fd, fn__law_turned F D, hm, D.kp, D.bindsN fun _ _ _ _ _ _ us hl => match us, hl with | [_], _ => rfl⟩

theorem sc__law_table : FnScope ["_law_rooms_here", "_law_sayings_here", "_law_table_here", "_law_x", "_law_y", "_law_lot", "_law_back", "_law_standing_here"] ["_law_rooms_here", "_law_sayings_here"] (defScope s__law_table) := ⟨rfl, rfl, rfl, by decide +kernel, rfl, by decide +kernel, by decide +kernel⟩
theorem fn__law_table (F : Fx K mg) {f : Addr} {fd : FuncData} (D : FunD K "_law_table" "_law_table" (defArgs s__law_table) (defBody s__law_table) (defScope s__law_table) [] [] f fd) : FnD P w K mg base 2 f fd ["_law_rooms_here", "_law_sayings_here"] Lib._law_table := by
  have nd := sc__law_table.nd
  refine fn_ok (N := ["_law_rooms_here", "_law_sayings_here", "_law_table_here", "_law_x", "_law_y", "_law_lot", "_law_back", "_law_standing_here"]) (ps := ["_law_rooms_here", "_law_sayings_here"]) D sc__law_table (fun T cdv A outer s H E hr => ?_)
  have hu : (cxOf (CX P w) P w K mg base ["_law_rooms_here", "_law_sayings_here", "_law_table_here", "_law_x", "_law_y", "_law_lot", "_law_back", "_law_standing_here"] "_law_table" (defScope s__law_table) f cdv A outer s H E).A.units + 65 < cLine := hu_room hr
  have hx : Lets (cxOf (CX P w) P w K mg base ["_law_rooms_here", "_law_sayings_here", "_law_table_here", "_law_x", "_law_y", "_law_lot", "_law_back", "_law_standing_here"] "_law_table" (defScope s__law_table) f cdv A outer s H E) E := lets_def (takes_of rfl rfl rfl rfl)
  have ho : PassesOwn (model P w) (cxOf (CX P w) P w K mg base ["_law_rooms_here", "_law_sayings_here", "_law_table_here", "_law_x", "_law_y", "_law_lot", "_law_back", "_law_standing_here"] "_law_table" (defScope s__law_table) f cdv A outer s H E).A (cxOf (CX P w) P w K mg base ["_law_rooms_here", "_law_sayings_here", "_law_table_here", "_law_x", "_law_y", "_law_lot", "_law_back", "_law_standing_here"] "_law_table" (defScope s__law_table) f cdv A outer s H E).env (cxOf (CX P w) P w K mg base ["_law_rooms_here", "_law_sayings_here", "_law_table_here", "_law_x", "_law_y", "_law_lot", "_law_back", "_law_standing_here"] "_law_table" (defScope s__law_table) f cdv A outer s H E).xe := passes_of rfl
  exact (ess_cons (es_set 2 nd ev_dnewT)
  (ess_cons (es_for [3, 4] ho rfl (ei_rg1 rfl F.n_range (ev_len rfl F.n_len (ea_cons (ev_name 0) ea_nil))) (eg_name 3 nd) (ess_one (es_for [4] ho rfl (ei_rg1 rfl F.n_range (ev_len rfl F.n_len (ea_cons (ev_name 0) ea_nil))) (eg_name 4 nd) (ess_one (es_if (eb_ne hu (ev_name 3) (ev_name 4)) (ess_one (es_asg (ev_cal (ok__law_every F) (hr.mono (by decide)) rfl hx (ea_cons (ev_name 0) (ea_cons (ev_name 3) (ea_cons (ev_name 4) ea_nil)))) (eg_sub hu (ev_name 2) (ev_tup (ea_cons (ev_name 3) (ea_cons (ev_name 4) ea_nil)))))) ess_nil)))))
  (ess_cons (es_for [3, 4, 5, 6] ho rfl (ei_seq (ev_name 1)) (eg_tup rfl (egs_cons (eg_name 3 nd) (egs_cons (eg_name 4 nd) (egs_cons (eg_name 5 nd) egs_nil)))) (ess_cons (by first | exact (es_setLc (own := [(("_law_standing_here" : Str), 7)]) mLst_end rfl nd rfl rfl (sw_true rfl rfl rfl (by decide +kernel)) (ei_seq (ev_name 5)) (blkOk_by (by first | decide +kernel | rfl)) (fun D s H C cl fp => (egw_name 7 nd)) (fun D s H C cl fp => ets_nil) (fun D s H C cl fp => (ev_cal (ok__law_turned F) (hr.mono (by decide)) rfl lets_never (ea_cons (ev_name 7) ea_nil)))) | exact (es_set 6 nd (ev_lc (own := [(("_law_standing_here" : Str), 7)]) mLst_end rfl nd (ei_seq (ev_name 5)) (blkOk_by (by first | decide +kernel | rfl)) (fun D s H C cl fp => (egw_name 7 nd)) (fun D s H C cl fp => ets_nil) (fun D s H C cl fp => (ev_cal (ok__law_turned F) (hr.mono (by decide)) rfl lets_never (ea_cons (ev_name 7) ea_nil))))))
  (ess_cons (es_asg (ev_lc (own := [(("_law_standing_here" : Str), 7)]) mLst_end rfl nd (ei_seq (ev_ix hu (ev_name 2) (ev_tup (ea_cons (ev_name 3) (ea_cons (ev_name 4) ea_nil))))) (blkOk_by (by first | decide +kernel | rfl)) (fun D s H C cl fp => (egw_name 7 nd)) (fun D s H C cl fp => (ets_one (eb_in hu (ev_name 7) (ev_name 5)))) (fun D s H C cl fp => (ev_name 7))) (eg_sub hu (ev_name 2) (ev_tup (ea_cons (ev_name 3) (ea_cons (ev_name 4) ea_nil)))))
  (ess_one (es_asg (ev_lc (own := [(("_law_standing_here" : Str), 7)]) mLst_end rfl nd (ei_seq (ev_ix hu (ev_name 2) (ev_tup (ea_cons (ev_name 4) (ea_cons (ev_name 3) ea_nil))))) (blkOk_by (by first | decide +kernel | rfl)) (fun D s H C cl fp => (egw_name 7 nd)) (fun D s H C cl fp => (ets_one (eb_in hu (ev_name 7) (ev_name 6)))) (fun D s H C cl fp => (ev_name 7))) (eg_sub hu (ev_name 2) (ev_tup (ea_cons (ev_name 4) (ea_cons (ev_name 3) ea_nil)))))))))
  (ess_one (es_ret (ev_name 2))))))
theorem ok__law_table (F : Fx K mg) : Cal P w K mg base 2 "_law_table" ["_law_rooms_here", "_law_sayings_here"] Lib._law_table := by
  obtain ⟨f, fd, D, hm⟩ := F.d__law_table
  exact ⟨f, fd, fn__law_table F D, hm, D.kp, D.bindsN fun _ _ _ _ _ _ us hl => match us, hl with | [_, _], _ => rfl⟩

theorem sc__law_moved : FnScope ["_law_source", "_law_rooms_here", "_law_forest", "_law_some", "_law_x", "_law_many", "_law_found", "_law_y", "_law_i"] ["_law_source", "_law_rooms_here", "_law_forest"] (defScope s__law_moved) := ⟨rfl, rfl, rfl, by decide +kernel, rfl, by decide +kernel, by decide +kernel⟩
theorem fn__law_moved (F : Fx K mg) {f : Addr} {fd : FuncData} (D : FunD K "_law_moved" "_law_moved" (defArgs s__law_moved) (defBody s__law_moved) (defScope s__law_moved) [] [] f fd) : FnD P w K mg base 2 f fd ["_law_source", "_law_rooms_here", "_law_forest"] d__law_moved := by
  have nd := sc__law_moved.nd
  refine fn_ok (N := ["_law_source", "_law_rooms_here", "_law_forest", "_law_some", "_law_x", "_law_many", "_law_found", "_law_y", "_law_i"]) (ps := ["_law_source", "_law_rooms_here", "_law_forest"]) D sc__law_moved (fun T cdv A outer s H E hr => ?_)
  have hu : (cxOf (CX P w) P w K mg base ["_law_source", "_law_rooms_here", "_law_forest", "_law_some", "_law_x", "_law_many", "_law_found", "_law_y", "_law_i"] "_law_moved" (defScope s__law_moved) f cdv A outer s H E).A.units + 65 < cLine := hu_room hr
  have hx : Lets (cxOf (CX P w) P w K mg base ["_law_source", "_law_rooms_here", "_law_forest", "_law_some", "_law_x", "_law_many", "_law_found", "_law_y", "_law_i"] "_law_moved" (defScope s__law_moved) f cdv A outer s H E) E := lets_def (takes_of rfl rfl rfl rfl)
  have ho : PassesOwn (model P w) (cxOf (CX P w) P w K mg base ["_law_source", "_law_rooms_here", "_law_forest", "_law_some", "_law_x", "_law_many", "_law_found", "_law_y", "_law_i"] "_law_moved" (defScope s__law_moved) f cdv A outer s H E).A (cxOf (CX P w) P w K mg base ["_law_source", "_law_rooms_here", "_law_forest", "_law_some", "_law_x", "_law_many", "_law_found", "_law_y", "_law_i"] "_law_moved" (defScope s__law_moved) f cdv A outer s H E).env (cxOf (CX P w) P w K mg base ["_law_source", "_law_rooms_here", "_law_forest", "_law_some", "_law_x", "_law_many", "_law_found", "_law_y", "_law_i"] "_law_moved" (defScope s__law_moved) f cdv A outer s H E).xe := passes_of rfl
  exact (ess_cons (es_par 5 6 rfl nd (ea_cons (ev_len rfl F.n_len (ea_cons (ev_name 1) ea_nil)) (ea_cons (ev_lstR (ea_cons (ev_name 2) ea_nil)) ea_nil)))
  (ess_cons (by first | exact (es_setLc (own := [(("_law_x" : Str), 4)]) mLst_end rfl nd rfl rfl (sw_true rfl rfl rfl (by decide +kernel)) (ei_rg1 rfl F.n_range (ev_name 5)) (blkOk_by (by first | decide +kernel | rfl)) (fun D s H C cl fp => (egw_name 4 nd)) (fun D s H C cl fp => ets_nil) (fun D s H C cl fp => (ev_name 4))) | exact (es_set 3 nd (ev_lc (own := [(("_law_x" : Str), 4)]) mLst_end rfl nd (ei_rg1 rfl F.n_range (ev_name 5)) (blkOk_by (by first | decide +kernel | rfl)) (fun D s H C cl fp => (egw_name 4 nd)) (fun D s H C cl fp => ets_nil) (fun D s H C cl fp => (ev_name 4)))))
  (ess_cons (es_if (eb_gt (ev_name 5) ev_int) (ess_one (es_set 3 nd (ev_lst (ea_cons (ev_cal (ok__law_take F) (hr.mono (by decide)) rfl hx (ea_cons (ev_name 0) (ea_cons (ev_name 5) ea_nil))) ea_nil)))) ess_nil)
  (ess_cons (es_for [4, 7] ho rfl (ei_seq (ev_name 3)) (eg_name 4 nd) (ess_cons (es_expr (ev_append (ev_name 6) (ev_cal (ok__law_placed F) (hr.mono (by decide)) rfl hx (ea_cons (ev_name 2) (ea_cons (ev_name 4) (ea_cons ev_non ea_nil))))))
  (ess_one (es_for [7] ho rfl (ei_rg1 rfl F.n_range (ev_name 5)) (eg_name 7 nd) (ess_one (es_expr (ev_extend (ev_name 6) (ev_lc (own := [(("_law_i" : Str), 8)]) mLst_end rfl nd (ei_rg1 rfl F.n_range (ev_add (ev_ix hu (ev_name 1) (ev_name 7)) ev_int)) (blkOk_by (by first | decide +kernel | rfl)) (fun D s H C cl fp => (egw_name 8 nd)) (fun D s H C cl fp => ets_nil) (fun D s H C cl fp => (ev_cal (ok__law_placed F) (hr.mono (by decide)) rfl lets_never (ea_cons (ev_name 2) (ea_cons (ev_name 4) (ea_cons (ev_tup (ea_cons (ev_name 7) (ea_cons (ev_name 8) ea_nil))) ea_nil)))))))))))))
  (ess_cons (es_asg (ev_tup (ea_cons (ev_cal (ok__law_take F) (hr.mono (by decide)) rfl hx (ea_cons (ev_name 0) (ea_cons (ev_name 5) ea_nil))) (ea_cons (ev_cal (ok__law_take F) (hr.mono (by decide)) rfl hx (ea_cons (ev_name 0) (ea_cons (ev_name 5) ea_nil))) ea_nil))) (eg_tup rfl (egs_cons (eg_name 4 nd) (egs_cons (eg_name 7 nd) egs_nil))))
  (ess_cons (es_expr (ev_append (ev_name 6) (ev_cal (ok__law_placed F) (hr.mono (by decide)) rfl hx (ea_cons (ev_cal (ok__law_placed F) (hr.mono (by decide)) rfl hx (ea_cons (ev_name 2) (ea_cons (ev_name 4) (ea_cons (ev_ix hu (ev_name 2) (ev_name 7)) ea_nil)))) (ea_cons (ev_name 7) (ea_cons (ev_ix hu (ev_name 2) (ev_name 4)) ea_nil))))))
  (ess_one (es_ret (ev_name 6)))))))))
theorem ok__law_moved (F : Fx K mg) : Cal P w K mg base 2 "_law_moved" ["_law_source", "_law_rooms_here", "_law_forest"] d__law_moved := by
  obtain ⟨f, fd, D, hm⟩ := F.d__law_moved
  exact ⟨f, fd, fn__law_moved F D, hm, D.kp, D.bindsN fun _ _ _ _ _ _ us hl => match us, hl with | [_, _, _], _ => rfl⟩

theorem sc__law_number : FnScope ["_law_thing", "_law_most"] ["_law_thing", "_law_most"] (defScope s__law_number) := ⟨rfl, rfl, rfl, by decide +kernel, rfl, by decide +kernel, by decide +kernel⟩
theorem fn__law_number (F : Fx K mg) {f : Addr} {fd : FuncData} (D : FunD K "_law_number" "_law_number" (defArgs s__law_number) (defBody s__law_number) (defScope s__law_number) [] [] f fd) : FnD P w K mg base 1 f fd ["_law_thing", "_law_most"] Lib._law_number := by
  have nd := sc__law_number.nd
  refine fn_ok (N := ["_law_thing", "_law_most"]) (ps := ["_law_thing", "_law_most"]) D sc__law_number (fun T cdv A outer s H E hr => ?_)
  have hu : (cxOf (CX P w) P w K mg base ["_law_thing", "_law_most"] "_law_number" (defScope s__law_number) f cdv A outer s H E).A.units + 65 < cLine := hu_room hr
  have hx : Lets (cxOf (CX P w) P w K mg base ["_law_thing", "_law_most"] "_law_number" (defScope s__law_number) f cdv A outer s H E) E := lets_def (takes_of rfl rfl rfl rfl)
  have ho : PassesOwn (model P w) (cxOf (CX P w) P w K mg base ["_law_thing", "_law_most"] "_law_number" (defScope s__law_number) f cdv A outer s H E).A (cxOf (CX P w) P w K mg base ["_law_thing", "_law_most"] "_law_number" (defScope s__law_number) f cdv A outer s H E).env (cxOf (CX P w) P w K mg base ["_law_thing", "_law_most"] "_law_number" (defScope s__law_number) f cdv A outer s H E).xe := passes_of rfl
  exact (ess_one (es_ret (ev_and (ev_isi rfl F.n_isinstance (ea_cons (ev_name 0) (ea_cons (ev_bty rfl F.n_int (by decide +kernel)) ea_nil))) (ev_and (ev_not (ev_isi rfl F.n_isinstance (ea_cons (ev_name 0) (ea_cons (ev_bty rfl F.n_bool (by decide +kernel)) ea_nil)))) (ev_one (ev_chainI op_le op_lt ev_int (ev_name 0) (ev_name 1)))))))
theorem ok__law_number (F : Fx K mg) : Cal P w K mg base 1 "_law_number" ["_law_thing", "_law_most"] Lib._law_number := by
  obtain ⟨f, fd, D, hm⟩ := F.d__law_number
  exact ⟨f, fd, fn__law_number F D, hm, D.kp, D.bindsN fun _ _ _ _ _ _ us hl => match us, hl with | [_, _], _ => rfl⟩

theorem sc__law_is_forest : FnScope ["_law_rooms_here", "_law_forest", "_law_x", "_law_place"] ["_law_rooms_here", "_law_forest"] (defScope s__law_is_forest) := ⟨rfl, rfl, rfl, by decide +kernel, rfl, by decide +kernel, by decide +kernel⟩
theorem fn__law_is_forest (F : Fx K mg) {f : Addr} {fd : FuncData} (D : FunD K "_law_is_forest" "_law_is_forest" (defArgs s__law_is_forest) (defBody s__law_is_forest) (defScope s__law_is_forest) [] [] f fd) : FnD P w K mg base 2 f fd ["_law_rooms_here", "_law_forest"] Lib._law_is_forest := by
  have nd := sc__law_is_forest.nd
  refine fn_ok (N := ["_law_rooms_here", "_law_forest", "_law_x", "_law_place"]) (ps := ["_law_rooms_here", "_law_forest"]) D sc__law_is_forest (fun T cdv A outer s H E hr => ?_)
  have hu : (cxOf (CX P w) P w K mg base ["_law_rooms_here", "_law_forest", "_law_x", "_law_place"] "_law_is_forest" (defScope s__law_is_forest) f cdv A outer s H E).A.units + 65 < cLine := hu_room hr
  have hx : Lets (cxOf (CX P w) P w K mg base ["_law_rooms_here", "_law_forest", "_law_x", "_law_place"] "_law_is_forest" (defScope s__law_is_forest) f cdv A outer s H E) E := lets_def (takes_of rfl rfl rfl rfl)
  have ho : PassesOwn (model P w) (cxOf (CX P w) P w K mg base ["_law_rooms_here", "_law_forest", "_law_x", "_law_place"] "_law_is_forest" (defScope s__law_is_forest) f cdv A outer s H E).A (cxOf (CX P w) P w K mg base ["_law_rooms_here", "_law_forest", "_law_x", "_law_place"] "_law_is_forest" (defScope s__law_is_forest) f cdv A outer s H E).env (cxOf (CX P w) P w K mg base ["_law_rooms_here", "_law_forest", "_law_x", "_law_place"] "_law_is_forest" (defScope s__law_is_forest) f cdv A outer s H E).xe := passes_of rfl
  exact (ess_cons (es_if (eb_w (ew_or (eb_not (eb_truth (ev_isi rfl F.n_isinstance (ea_cons (ev_name 1) (ea_cons (ev_bty rfl F.n_tuple (by decide +kernel)) ea_nil))))) (ew_or1 (eb_ne hu (ev_len rfl F.n_len (ea_cons (ev_name 1) ea_nil)) (ev_len rfl F.n_len (ea_cons (ev_name 0) ea_nil)))))) (ess_one (es_ret ev_bl)) ess_nil)
  (ess_cons (es_for [2, 3] ho rfl (ei_rg1 rfl F.n_range (ev_len rfl F.n_len (ea_cons (ev_name 1) ea_nil))) (eg_name 2 nd) (ess_cons (es_set 3 nd (ev_ix hu (ev_name 1) (ev_name 2)))
  (ess_one (es_if (eb_isNot (ev_name 3) ev_non) (ess_cons (es_if (eb_w (ew_or (eb_not (eb_truth (ev_isi rfl F.n_isinstance (ea_cons (ev_name 3) (ea_cons (ev_bty rfl F.n_tuple (by decide +kernel)) ea_nil))))) (ew_or1 (eb_ne hu (ev_len rfl F.n_len (ea_cons (ev_name 3) ea_nil)) ev_int)))) (ess_one (es_ret ev_bl)) ess_nil)
  (ess_cons (es_if (eb_w (ew_or (eb_not (eb_truth (ev_cal (ok__law_number F) (hr.mono (by decide)) rfl hx (ea_cons (ev_ix hu (ev_name 3) ev_int) (ea_cons (ev_len rfl F.n_len (ea_cons (ev_name 0) ea_nil)) ea_nil))))) (ew_or1 (eb_eq hu (ev_ix hu (ev_name 3) ev_int) (ev_name 2))))) (ess_one (es_ret ev_bl)) ess_nil)
  (ess_one (es_if (eb_not (eb_truth (ev_cal (ok__law_number F) (hr.mono (by decide)) rfl hx (ea_cons (ev_ix hu (ev_name 3) ev_int) (ea_cons (ev_ix hu (ev_name 0) (ev_ix hu (ev_name 3) ev_int)) ea_nil))))) (ess_one (es_ret ev_bl)) ess_nil)))) ess_nil))))
  (ess_cons (es_for [2] ho rfl (ei_rg1 rfl F.n_range (ev_len rfl F.n_len (ea_cons (ev_name 1) ea_nil))) (eg_name 2 nd) (ess_one (es_if (eb_in hu (ev_name 2) (ev_lc (own := [(("_law_place" : Str), 3)]) mLst_end rfl nd (ei_seq (ev_cal (ok__law_climb F) (hr.mono (by decide)) rfl hx (ea_cons (ev_name 1) (ea_cons (ev_name 2) ea_nil)))) (blkOk_by (by first | decide +kernel | rfl)) (fun D s H C cl fp => (egw_name 3 nd)) (fun D s H C cl fp => ets_nil) (fun D s H C cl fp => (ev_ix hu (ev_name 3) ev_int)))) (ess_one (es_ret ev_bl)) ess_nil)))
  (ess_one (es_ret ev_bl)))))
theorem ok__law_is_forest (F : Fx K mg) : Cal P w K mg base 2 "_law_is_forest" ["_law_rooms_here", "_law_forest"] Lib._law_is_forest := by
  obtain ⟨f, fd, D, hm⟩ := F.d__law_is_forest
  exact ⟨f, fd, fn__law_is_forest F D, hm, D.kp, D.bindsN fun _ _ _ _ _ _ us hl => match us, hl with | [_, _], _ => rfl⟩

theorem sc__law_kept : FnScope ["_law_table_here", "_law_forest", "_law_x", "_law_y"] ["_law_table_here", "_law_forest"] (defScope s__law_kept) := ⟨rfl, rfl, rfl, by decide +kernel, rfl, by decide +kernel, by decide +kernel⟩
theorem fn__law_kept (F : Fx K mg) {f : Addr} {fd : FuncData} (D : FunD K "_law_kept" "_law_kept" (defArgs s__law_kept) (defBody s__law_kept) (defScope s__law_kept) [] [] f fd) : FnD P w K mg base 3 f fd ["_law_table_here", "_law_forest"] Lib._law_kept := by
  have nd := sc__law_kept.nd
  refine fn_ok (N := ["_law_table_here", "_law_forest", "_law_x", "_law_y"]) (ps := ["_law_table_here", "_law_forest"]) D sc__law_kept (fun T cdv A outer s H E hr => ?_)
  have hu : (cxOf (CX P w) P w K mg base ["_law_table_here", "_law_forest", "_law_x", "_law_y"] "_law_kept" (defScope s__law_kept) f cdv A outer s H E).A.units + 65 < cLine := hu_room hr
  have hx : Lets (cxOf (CX P w) P w K mg base ["_law_table_here", "_law_forest", "_law_x", "_law_y"] "_law_kept" (defScope s__law_kept) f cdv A outer s H E) E := lets_def (takes_of rfl rfl rfl rfl)
  have ho : PassesOwn (model P w) (cxOf (CX P w) P w K mg base ["_law_table_here", "_law_forest", "_law_x", "_law_y"] "_law_kept" (defScope s__law_kept) f cdv A outer s H E).A (cxOf (CX P w) P w K mg base ["_law_table_here", "_law_forest", "_law_x", "_law_y"] "_law_kept" (defScope s__law_kept) f cdv A outer s H E).env (cxOf (CX P w) P w K mg base ["_law_table_here", "_law_forest", "_law_x", "_law_y"] "_law_kept" (defScope s__law_kept) f cdv A outer s H E).xe := passes_of rfl
  exact (ess_cons (es_for [2, 3] ho rfl (ei_rg1 rfl F.n_range (ev_len rfl F.n_len (ea_cons (ev_name 1) ea_nil))) (eg_name 2 nd) (ess_one (es_for [3] ho rfl (ei_rg1 rfl F.n_range (ev_name 2)) (eg_name 3 nd) (ess_one (es_if (eb_notIn hu (ev_cal (ok__law_standing F) (hr.mono (by decide)) rfl hx (ea_cons (ev_name 1) (ea_cons (ev_name 2) (ea_cons (ev_name 3) ea_nil)))) (ev_ix hu (ev_name 0) (ev_tup (ea_cons (ev_name 2) (ea_cons (ev_name 3) ea_nil))))) (ess_one (es_ret ev_bl)) ess_nil)))))
  (ess_one (es_ret ev_bl)))
theorem ok__law_kept (F : Fx K mg) : Cal P w K mg base 3 "_law_kept" ["_law_table_here", "_law_forest"] Lib._law_kept := by
  obtain ⟨f, fd, D, hm⟩ := F.d__law_kept
  exact ⟨f, fd, fn__law_kept F D, hm, D.kp, D.bindsN fun _ _ _ _ _ _ us hl => match us, hl with | [_, _], _ => rfl⟩

theorem sc__law_no_book : FnScope ["_law_source", "_law_book", "_law_many", "_law_bad", "_law_way", "_law_rooms_here", "_law_sayings_here"] ["_law_source", "_law_book"] (defScope s__law_no_book) := ⟨rfl, rfl, rfl, by decide +kernel, rfl, by decide +kernel, by decide +kernel⟩
theorem fn__law_no_book (F : Fx K mg) {f : Addr} {fd : FuncData} (D : FunD K "_law_no_book" "_law_no_book" (defArgs s__law_no_book) (defBody s__law_no_book) (defScope s__law_no_book) [] [] f fd) : FnD P w K mg base 3 f fd ["_law_source", "_law_book"] d__law_no_book := by
  have nd := sc__law_no_book.nd
  refine fn_ok (N := ["_law_source", "_law_book", "_law_many", "_law_bad", "_law_way", "_law_rooms_here", "_law_sayings_here"]) (ps := ["_law_source", "_law_book"]) D sc__law_no_book (fun T cdv A outer s H E hr => ?_)
  have hu : (cxOf (CX P w) P w K mg base ["_law_source", "_law_book", "_law_many", "_law_bad", "_law_way", "_law_rooms_here", "_law_sayings_here"] "_law_no_book" (defScope s__law_no_book) f cdv A outer s H E).A.units + 65 < cLine := hu_room hr
  have hx : Lets (cxOf (CX P w) P w K mg base ["_law_source", "_law_book", "_law_many", "_law_bad", "_law_way", "_law_rooms_here", "_law_sayings_here"] "_law_no_book" (defScope s__law_no_book) f cdv A outer s H E) E := lets_def (takes_of rfl rfl rfl rfl)
  have ho : PassesOwn (model P w) (cxOf (CX P w) P w K mg base ["_law_source", "_law_book", "_law_many", "_law_bad", "_law_way", "_law_rooms_here", "_law_sayings_here"] "_law_no_book" (defScope s__law_no_book) f cdv A outer s H E).A (cxOf (CX P w) P w K mg base ["_law_source", "_law_book", "_law_many", "_law_bad", "_law_way", "_law_rooms_here", "_law_sayings_here"] "_law_no_book" (defScope s__law_no_book) f cdv A outer s H E).env (cxOf (CX P w) P w K mg base ["_law_source", "_law_book", "_law_many", "_law_bad", "_law_way", "_law_rooms_here", "_law_sayings_here"] "_law_no_book" (defScope s__law_no_book) f cdv A outer s H E).xe := passes_of rfl
  exact (ess_cons (es_asg (ev_name 1) (eg_tup rfl (egs_cons (eg_name 5 nd) (egs_cons (eg_name 6 nd) egs_nil))))
  (ess_cons (es_set 2 nd (ev_len rfl F.n_len (ea_cons (ev_name 5) ea_nil)))
  (ess_cons (es_set 3 nd (ev_lst (ea_cons (ev_tup (ea_cons ev_int (ea_cons ev_int (ea_cons (ev_tup ea_nil) ea_nil)))) (ea_cons (ev_tup (ea_cons ev_int (ea_cons (ev_name 2) (ea_cons (ev_tup ea_nil) ea_nil)))) (ea_cons (ev_tup (ea_cons (ev_name 2) (ea_cons ev_int (ea_cons (ev_tup ea_nil) ea_nil)))) (ea_cons (ev_tup (ea_cons (ev_neg ev_int) (ea_cons ev_int (ea_cons (ev_tup ea_nil) ea_nil)))) (ea_cons (ev_tup (ea_cons ev_int (ea_cons ev_int ea_nil))) (ea_cons ev_non (ea_cons (ev_tup (ea_cons ev_int (ea_cons ev_int (ea_cons (ev_tup ea_nil) (ea_cons (ev_tup ea_nil) ea_nil))))) (ea_cons (ev_tup (ea_cons ev_int (ea_cons ev_int (ea_cons (ev_tup (ea_cons (ev_tup (ea_cons ev_str (ea_cons ev_int ea_nil))) ea_nil)) ea_nil)))) ea_nil))))))))))
  (ess_cons (es_set 4 nd (ev_cal (ok__law_take F) (hr.mono (by decide)) rfl hx (ea_cons (ev_name 0) (ea_cons ev_int ea_nil))))
  (ess_cons (es_if (eb_eq hu (ev_name 4) ev_int) (ess_one (es_ret (ev_cal (ok__law_one F) (hr.mono (by decide)) rfl hx (ea_cons (ev_name 0) (ea_cons (ev_lst (ea_cons (ev_tup (ea_cons (ev_name 6) (ea_cons (ev_name 5) (ea_cons (ev_tup ea_nil) ea_nil)))) (ea_cons (ev_tup (ea_cons (ev_name 5) (ea_cons ev_int ea_nil))) (ea_cons (ev_tup (ea_cons ev_int (ea_cons (ev_name 6) ea_nil))) (ea_cons (ev_tup (ea_cons (ev_name 5) ea_nil)) (ea_cons ev_non (ea_cons ev_str (ea_cons (ev_add (ev_name 1) (ev_tup (ea_cons ev_non ea_nil))) ea_nil)))))))) ea_nil))))) ess_nil)
  (ess_cons (es_if (eb_eq hu (ev_name 4) ev_int) (ess_one (es_ret (ev_tup (ea_cons (ev_add (ev_sl (ev_name 5) eo_none (eo_some (ev_sub (ev_name 2) ev_int))) (ev_tup (ea_cons (ev_cal (ok__law_one F) (hr.mono (by decide)) rfl hx (ea_cons (ev_name 0) (ea_cons (ev_lst (ea_cons ev_int (ea_cons (ev_neg ev_int) (ea_cons ev_non (ea_cons ev_bl (ea_cons (ev_tup (ea_cons ev_int ea_nil)) ea_nil)))))) ea_nil))) ea_nil))) (ea_cons (ev_name 6) ea_nil))))) ess_nil)
  (ess_one (es_ret (ev_tup (ea_cons (ev_name 5) (ea_cons (ev_add (ev_name 6) (ev_tup (ea_cons (ev_cal (ok__law_one F) (hr.mono (by decide)) rfl hx (ea_cons (ev_name 0) (ea_cons (ev_name 3) ea_nil))) ea_nil))) ea_nil)))))))))))
theorem ok__law_no_book (F : Fx K mg) : Cal P w K mg base 3 "_law_no_book" ["_law_source", "_law_book"] d__law_no_book := by
  obtain ⟨f, fd, D, hm⟩ := F.d__law_no_book
  exact ⟨f, fd, fn__law_no_book F D, hm, D.kp, D.bindsN fun _ _ _ _ _ _ us hl => match us, hl with | [_, _], _ => rfl⟩

theorem sc_law : FnScope ["_law_script", "_law_k", "_law_source", "_law_half", "_law_good", "_law_tried", "_law_at", "_law_rooms_here", "_law_sayings_here", "_law_books", "_law_tables", "_law_which", "_law_told", "_law_due"] ["_law_script"] (defScope s_law) := ⟨rfl, rfl, rfl, by decide +kernel, rfl, by decide +kernel, by decide +kernel⟩
theorem fn_law (F : Fx K mg) {f : Addr} {fd : FuncData} (D : FunD K "law" "law" (defArgs s_law) (defBody s_law) (defScope s_law) [] [] f fd) : FnD P w K mg base 8 f fd ["_law_script"] d_law := by
  have nd := sc_law.nd
  refine fn_ok (N := ["_law_script", "_law_k", "_law_source", "_law_half", "_law_good", "_law_tried", "_law_at", "_law_rooms_here", "_law_sayings_here", "_law_books", "_law_tables", "_law_which", "_law_told", "_law_due"]) (ps := ["_law_script"]) D sc_law (fun T cdv A outer s H E hr => ?_)
  have hu : (cxOf (CX P w) P w K mg base ["_law_script", "_law_k", "_law_source", "_law_half", "_law_good", "_law_tried", "_law_at", "_law_rooms_here", "_law_sayings_here", "_law_books", "_law_tables", "_law_which", "_law_told", "_law_due"] "law" (defScope s_law) f cdv A outer s H E).A.units + 65 < cLine := hu_room hr
  have hx : Lets (cxOf (CX P w) P w K mg base ["_law_script", "_law_k", "_law_source", "_law_half", "_law_good", "_law_tried", "_law_at", "_law_rooms_here", "_law_sayings_here", "_law_books", "_law_tables", "_law_which", "_law_told", "_law_due"] "law" (defScope s_law) f cdv A outer s H E) E := lets_def (takes_of rfl rfl rfl rfl)
  have ho : PassesOwn (model P w) (cxOf (CX P w) P w K mg base ["_law_script", "_law_k", "_law_source", "_law_half", "_law_good", "_law_tried", "_law_at", "_law_rooms_here", "_law_sayings_here", "_law_books", "_law_tables", "_law_which", "_law_told", "_law_due"] "law" (defScope s_law) f cdv A outer s H E).A (cxOf (CX P w) P w K mg base ["_law_script", "_law_k", "_law_source", "_law_half", "_law_good", "_law_tried", "_law_at", "_law_rooms_here", "_law_sayings_here", "_law_books", "_law_tables", "_law_which", "_law_told", "_law_due"] "law" (defScope s_law) f cdv A outer s H E).env (cxOf (CX P w) P w K mg base ["_law_script", "_law_k", "_law_source", "_law_half", "_law_good", "_law_tried", "_law_at", "_law_rooms_here", "_law_sayings_here", "_law_books", "_law_tables", "_law_which", "_law_told", "_law_due"] "law" (defScope s_law) f cdv A outer s H E).xe := passes_of rfl
  exact (ess_cons (es_for [1, 2, 7, 8, 3, 9, 10, 4, 5, 6, 11, 12, 13] ho rfl (ei_rg1 rfl F.n_range ev_int) (eg_name 1 nd) (ess_cons (es_set 2 nd (ev_cal (ok__law_pool F) (hr.mono (by decide)) rfl hx (ea_cons (ev_name 0) (ea_cons (ev_name 1) ea_nil))))
  (ess_cons (es_asg (ev_cal (ok__law_world F) (hr.mono (by decide)) rfl hx (ea_cons (ev_name 2) (ea_cons (ev_sub ev_int (ev_mul ev_int (ev_name 1))) (ea_cons ev_int ea_nil)))) (eg_tup rfl (egs_cons (eg_name 7 nd) (egs_cons (eg_name 8 nd) egs_nil))))
  (ess_cons (es_set 3 nd (ev_sl (ev_name 8) eo_none (eo_some (ev_div (ev_len rfl F.n_len (ea_cons (ev_name 8) ea_nil)) ev_int))))
  (ess_cons (es_par 9 10 rfl nd (ea_cons (ev_lst (ea_cons (ev_tup (ea_cons (ev_name 7) (ea_cons (ev_tupC rfl F.n_tuple (ea_cons (ev_name 8) ea_nil)) ea_nil))) (ea_cons (ev_tup (ea_cons (ev_name 7) (ea_cons (ev_tupC rfl F.n_tuple (ea_cons (ev_name 3) ea_nil)) ea_nil))) ea_nil))) (ea_cons (ev_lst (ea_cons (ev_cal (ok__law_table F) (hr.mono (by decide)) rfl hx (ea_cons (ev_name 7) (ea_cons (ev_name 8) ea_nil))) (ea_cons (ev_cal (ok__law_table F) (hr.mono (by decide)) rfl hx (ea_cons (ev_name 7) (ea_cons (ev_name 3) ea_nil))) ea_nil))) ea_nil)))
  (ess_cons (es_set 4 nd (ev_ix hu (ev_cal (ok__law_solved F) (hr.mono (by decide)) rfl hx (ea_cons (ev_name 7) (ea_cons (ev_ix hu (ev_name 10) ev_int) ea_nil))) ev_int))
  (ess_cons (es_if (eb_is (ev_name 4) ev_non) (ess_one (es_set 4 nd (ev_cal (ok__law_grown F) (hr.mono (by decide)) rfl hx (ea_cons (ev_name 2) (ea_cons (ev_name 7) ea_nil))))) ess_nil)
  (ess_cons (es_set 5 nd (ev_add (ev_add (ev_lst (ea_cons (ev_name 4) ea_nil)) (ev_cal (ok__law_moved F) (hr.mono (by decide)) rfl hx (ea_cons (ev_name 2) (ea_cons (ev_name 7) (ea_cons (ev_name 4) ea_nil))))) (ev_cal (ok__law_odd F) (hr.mono (by decide)) rfl hx (ea_cons (ev_name 2) (ea_cons (ev_name 7) (ea_cons (ev_name 4) ea_nil))))))
  (ess_cons (es_for [6, 11, 12, 13] ho rfl (ei_rg1 rfl F.n_range (ev_len rfl F.n_len (ea_cons (ev_name 5) ea_nil))) (eg_name 6 nd) (ess_cons (es_set 11 nd (ev_if (eb_eq hu (ev_name 6) ev_int) ev_int (ev_mod (ev_intC rfl F.n_int (ea_cons (ev_add (ev_name 6) (ev_name 1)) ea_nil)) ev_int)))
  (ess_cons (es_set 12 nd (ev_cal (ok_keeps F) (hr.mono (by decide)) rfl hx (ea_cons (ev_ix hu (ev_name 9) (ev_name 11)) (ea_cons (ev_ix hu (ev_name 5) (ev_name 6)) ea_nil))))
  (ess_cons (es_set 13 nd (ev_and (ev_cal (ok__law_is_forest F) (hr.mono (by decide)) rfl hx (ea_cons (ev_name 7) (ea_cons (ev_ix hu (ev_name 5) (ev_name 6)) ea_nil))) (ev_one (ev_cal (ok__law_kept F) (hr.mono (by decide)) rfl hx (ea_cons (ev_ix hu (ev_name 10) (ev_name 11)) (ea_cons (ev_ix hu (ev_name 5) (ev_name 6)) ea_nil))))))
  (ess_one (es_if (eb_w (ew_or (eb_not (eb_truth (ev_isi rfl F.n_isinstance (ea_cons (ev_name 12) (ea_cons (ev_bty rfl F.n_bool (by decide +kernel)) ea_nil))))) (ew_or1 (eb_ne hu (ev_name 12) (ev_name 13))))) (ess_one (es_ret ev_bl)) ess_nil))))))
  (ess_one (es_if (eb_isNot (ev_cal (ok_keeps F) (hr.mono (by decide)) rfl hx (ea_cons (ev_cal (ok__law_no_book F) (hr.mono (by decide)) rfl hx (ea_cons (ev_name 2) (ea_cons (ev_ix hu (ev_name 9) ev_int) ea_nil))) (ea_cons (ev_name 4) ea_nil))) ev_bl) (ess_one (es_ret ev_bl)) ess_nil)))))))))))
  (ess_one (es_ret ev_bl)))
theorem ok_law (F : Fx K mg) : Cal P w K mg base 8 "law" ["_law_script"] d_law := by
  obtain ⟨f, fd, D, hm⟩ := F.d_law
  exact ⟨f, fd, fn_law F D, hm, D.kp, D.bindsN fun _ _ _ _ _ _ us hl => match us, hl with | [_], _ => rfl⟩
end
end K12
set_option Elab.async false
set_option linter.all false
set_option maxRecDepth 100000
set_option maxHeartbeats 4000000
/-! K12L: what the law draws. -/
namespace K12
open PySem PySem.Spec PyProof.Rows L2 DN Lib
section
variable {Q : PV → Store → Prop} {st : Store} {F : List Pl} {R : List Nat} {x y n s : Nat} {p f : PV}
theorem loose_spec {m a o : Nat} (hs : SrcAt st s) (hR : okR R) (h2 : 2 ≤ R.length) (hm : m ≤ 900) (ha : 0 < a ∧ a < 900) (ho : 0 < o ∧ o < 900) (q : ∀ (S : List Sy) st', (∀ z ∈ S, okSy R z) → S.length ≤ m → Dr s st st' → Q (.lst (S.map syv)) st') : wp (d__law_loose [.ref s, rv R, .int m, .int a, .int o] st) Q := by
  refine wp_fn ?_
  have hlt := hs.lt
  have h24 := hR.1
  simp
  have e : ((m : Int) + 1) = ((m + 1 : Nat) : Int) := by omega
  rw [e]
  refine takeN hs.app (by omega) (by omega) fun k st1 hk hd => ?_
  obtain ⟨x0, rfl, hd0⟩ := Dr.app hlt hd
  simp
  refine ⟨rgN (by omega), ?_⟩
  refine wps_forRo (fun i σ st' => ∃ (S : List Sy) (x' : Store) (junk : List SO), σ = [some (.ref s), some (rv R), some (.int m), some (.int a), some (.int o), some (.ref st.length), none, none, none, none, none] ∧ st' = x' ++ (.lst (S.map syv) :: junk) ∧ Dr s st x' ∧ (S.length : Int) = i ∧ i ≤ k ∧ ∀ z ∈ S, okSy R z) ?_ ?_ ⟨[], x0, [], rfl, rfl, hd0, rfl, by omega, by simp⟩
  · rintro I hI i σ st' ⟨S, x', junk, rfl, rfl, hd, hi, hik, hS⟩ hlt2
    have hl := hd.len
    simp
    refine two_spec (hd.src hs).app h2 (by omega) fun x y st2 hx hy hxy hd2 => ?_
    obtain ⟨x2, rfl, hd3⟩ := Dr.app (by omega) hd2
    have hd3 := hd.trans hd3
    have hl3 := hd3.len
    simp
    refine every_spec hR hx hy ?_
    simp
    refine wps_forM (fun r σ st' => ∃ (D L : List Sd) (x' : Store), σ = [some (.ref s), some (rv R), some (.int m), some (.int a), some (.int o), some (.ref st.length), some (.int i), some (.ref (st.length + 1 + junk.length)), none, some (.int x), some (.int y)] ∧ st' = x' ++ (.lst (S.map syv) :: (junk ++ [.lst (L.map sv)])) ∧ Dr s st x' ∧ allS R x y = D ++ r ∧ L.Sublist D) _ ?_ ?_ ⟨[], [], x2, by simp [hl3]; omega, by simp, hd3, rfl, .slnil⟩
    · rintro J hJ z r σ st' ⟨D, L, x', rfl, rfl, hd5, e3, hsub⟩
      have hl5 := hd5.len
      obtain ⟨w, v, ew⟩ := isA (z := z)
      have hLl : L.length ≤ 9 := by
        have := (hsub.trans (List.sublist_append_left D (z :: r))).length_le
        rw [← e3] at this
        exact Nat.le_trans this (allS_len hR)
      have ix : ∀ (Q : PV → Store → Prop) st, wp (pIx (sv z) (.int 0) st) Q = Q (.str w) st := fun Q st => by rw [ew]; simp
      have tail : ∀ x2, Dr s st x2 → J r [some (.ref s), some (rv R), some (.int m), some (.int a), some (.int o), some (.ref st.length), some (.int i), some (.ref (st.length + 1 + junk.length)), none, some (.int x), some (.int y)] (x2 ++ (.lst (S.map syv) :: (junk ++ [.lst (L.map sv)]))) := fun x2 h => hJ _ _ _ ⟨D ++ [z], L, x2, rfl, rfl, h, by rw [e3]; simp, hsub.trans (List.sublist_append_left _ _)⟩
      have put : ∀ x2, Dr s st x2 → J r [some (.ref s), some (rv R), some (.int m), some (.int a), some (.int o), some (.ref st.length), some (.int i), some (.ref (st.length + 1 + junk.length)), none, some (.int x), some (.int y)] (x2 ++ (.lst (S.map syv) :: (junk ++ [.lst ((L ++ [z]).map sv)]))) := fun x2 h => hJ _ _ _ ⟨D ++ [z], L ++ [z], x2, rfl, rfl, h, by rw [e3]; simp, hsub.append (List.Sublist.refl _)⟩
      have get : ∀ x2 : Store, Dr s st x2 → (x2 ++ (.lst (S.map syv) :: (junk ++ [SO.lst (L.map sv)])))[st.length + 1 + junk.length]? = some (.lst (L.map sv)) := fun x2 h => by
        rw [Nat.add_assoc, app_get h.len, Nat.add_comm 1, List.getElem?_cons_succ, List.getElem?_append_right (Nat.le_refl _)]
        simp
      have app : ∀ (x2 : Store) (h : Dr s st x2), wp (mAppend (.ref (st.length + 1 + junk.length)) [sv z] (x2 ++ (.lst (S.map syv) :: (junk ++ [SO.lst (L.map sv)])))) fun _ st' => J r (wipeA [some (.ref s), some (rv R), some (.int m), some (.int a), some (.int o), some (.ref st.length), some (.int i), some (.ref (st.length + 1 + junk.length)), some (sv z), some (.int x), some (.int y)] [8]) st' := fun x2 h => by
        refine wp_append (get x2 h) (by simp only [List.length_map, SZ_lit]; omega) ?_
        rw [Nat.add_assoc, app_set h.len, Nat.add_comm 1, List.set_cons_succ, List.set_append_right _ _ (Nat.le_refl _)]
        simp [wipeA]
        have := put x2 h
        rw [Nat.add_assoc, Nat.add_comm 1] at this
        simpa using this
      simp [ix]
      by_cases hap : w = Str.ofString "apart"
      · simp [hap]
        refine takeN (hd5.src hs).app ha.1 (by omega) fun j st4 hj hd6 => ?_
        obtain ⟨x4, rfl, hd7⟩ := Dr.app (by omega) hd6
        have hd8 := hd5.trans hd7
        simp
        refine ⟨fun _ => ⟨isL_ref (get x4 hd8), app x4 hd8⟩, fun _ => ?_⟩
        simp [wipeA]
        exact tail x4 hd8
      · simp [hap]
        refine takeN (hd5.src hs).app ho.1 (by omega) fun j st4 hj hd6 => ?_
        obtain ⟨x4, rfl, hd7⟩ := Dr.app (by omega) hd6
        have hd8 := hd5.trans hd7
        simp
        refine ⟨fun _ => ⟨isL_ref (get x4 hd8), app x4 hd8⟩, fun _ => ?_⟩
        simp [wipeA]
        exact tail x4 hd8
    · rintro σ st' ⟨D, L, x', rfl, rfl, hd5, e3, hsub⟩
      have hl5 := hd5.len
      have get : (x' ++ (.lst (S.map syv) :: (junk ++ [SO.lst (L.map sv)])))[st.length + 1 + junk.length]? = some (.lst (L.map sv)) := by
        rw [Nat.add_assoc, app_get hl5, Nat.add_comm 1, List.getElem?_cons_succ, List.getElem?_append_right (Nat.le_refl _)]
        simp
      simp [wipeA]
      refine ⟨isL_ref (l := S.map syv) (by rw [app_get0 hl5]; rfl), ?_⟩
      rw [wp_tupR get]
      try simp
      refine wp_append (l := S.map syv) (by rw [app_get0 hl5]; rfl) (by simp only [List.length_map, SZ_lit]; omega) ?_
      rw [app_set0 hl5]
      refine hI _ _ _ ⟨S ++ [⟨x, y, L⟩], x', junk ++ [.lst (L.map sv)], rfl, by simp [syv], hd5, by simp; omega, by omega, fun z hz => ?_⟩
      rcases List.mem_append.mp hz with h | h
      · exact hS z h
      · simp at h
        subst h
        exact ⟨hx, hy, hxy, by simpa [e3] using hsub⟩
  · rintro i σ st' ⟨S, x', junk, rfl, rfl, hd, hi, hik, hS⟩ hlt2
    have hl := hd.len
    simp [wipeA]
    refine Gc.lst (s := s) (x := x') (junk := .lst (S.map syv) :: junk) (n := st.length) (l := S.map syv) cls_syvs hd rfl (by omega) (by rw [app_get0 hl]; rfl) (q S x' hS (by omega) hd)
theorem world_spec {m said : Nat} (hs : SrcAt st s) (hm : 0 < m ∧ m ≤ 24) (hsd : said ≤ 900) (q : ∀ (R : List Nat) (S : List Sy) st', okR R → 1 ≤ R.length → (∀ z ∈ S, okSy R z) → S.length ≤ said → Dr s st st' → Q (.tup [rv R, .lst (S.map syv)]) st') : wp (d__law_world [.ref s, .int m, .int said] st) Q := by
  refine wp_fn ?_
  simp
  refine one_spec hs (by simp) (by simp) (by simp) fun v st1 hv hd => ?_
  obtain ⟨c, rfl⟩ : ∃ c : Nat, v = .int c := by
    simp only [List.mem_cons, List.not_mem_nil, or_false] at hv
    rcases hv with rfl | rfl | rfl | rfl | rfl | rfl
    · exact ⟨1, rfl⟩
    · exact ⟨2, rfl⟩
    · exact ⟨3, rfl⟩
    · exact ⟨4, rfl⟩
    · exact ⟨5, rfl⟩
    · exact ⟨0, rfl⟩
  simp
  refine ⟨by omega, ?_⟩
  have e : (1 + (c : Int) % (m : Int)) = ((1 + c % m : Nat) : Int) := by exact_mod_cast rfl
  rw [e]
  have hcm := Nat.mod_lt c hm.1
  refine rooms_spec (hd.src hs) (by omega) fun R st2 hl hr hd2 => ?_
  have hR : okR R := ⟨by omega, hr⟩
  have hd := hd.trans hd2
  simp [rv]
  by_cases h2 : R.length < 2
  · rw [cnd_pos (decide_eq_true (by omega))]
    exact Gc.dr0 (s := s) (by simpa using cls_nvs) hd (q R [] st2 hR (by omega) (by simp) (by simp) hd)
  · rw [cnd_neg (decide_eq_false (by omega))]
    refine takeN (top := 3) (hd.src hs) (by omega) (by omega) fun k st3 hk hd3 => ?_
    have hd := hd.trans hd3
    simp
    by_cases hk0 : k = 0
    · subst hk0
      simp
      refine sayings_spec (hd.src hs) hR hsd fun S st4 hS hSl hd4 => ?_
      have hd := hd.trans hd4
      exact Gc.dr0 (s := s) (by simpa using ⟨cls_nvs, cls_syvs⟩) hd (q R S st4 hR (by omega) hS hSl hd)
    · rw [cnd_neg (decide_eq_false (by omega))]
      have e2 : (2 * (k : Int)) = ((2 * k : Nat) : Int) := by omega
      rw [e2]
      refine loose_spec (a := 7) (hd.src hs) hR (by omega) hsd (by omega) (by omega) fun S st4 hS hSl hd4 => ?_
      have hd := hd.trans hd4
      exact Gc.dr0 (s := s) (by simpa using ⟨cls_nvs, cls_syvs⟩) hd (q R S st4 hR (by omega) hS hSl hd)
/-- a tuple of n data -/
def Fo (n : Nat) (p : PV) : Prop := ∃ l, p = .tup l ∧ l.length = n ∧ ∀ q ∈ l, dab 5 q = true
theorem Fo.dab (h : Fo n p) : dab 20 p = true := by
  obtain ⟨l, rfl, _, h⟩ := h
  exact dab_mono (n := 6) (by omega) (by simpa [DN.dab] using h)
theorem Fo.cl (h : Fo n p) : cl p = true := dab_cl h.dab
theorem fo_fv (h : F.length = n) : Fo n (fv F) := ⟨_, rfl, by simpa using h, fun q hq => by
  obtain ⟨a, _, rfl⟩ := List.mem_map.mp hq
  exact dab_pv (by omega)⟩
theorem cut_drop {α : Type} {l : List α} {k : Nat} : cut l (some (k : Int)) none = l.drop k := by
  simp only [cut, HT.sIx_none, HT.sIx_nat]
  by_cases h : k ≤ l.length
  · rw [Nat.min_eq_left h, List.take_of_length_le (by simp)]
  · rw [Nat.min_eq_right (by omega), List.drop_of_length_le (by omega : l.length ≤ k)]
    simp
theorem placed_spec {w : PV} (hp : Fo n p) (hx : x < n) (hn : n ≤ 1000) (hw : dab 5 w = true) (q : ∀ p', Fo n p' → Q p' st) : wp (d__law_placed [p, .int x, w] st) Q := by
  obtain ⟨l, rfl, hl, h⟩ := hp
  refine wp_fn ?_
  simp
  have e : ((x : Int) + 1) = ((x + 1 : Nat) : Int) := by omega
  rw [e, cut_drop, cut_take]
  have hll : (l.take x ++ w :: l.drop (x + 1)).length = n := by simp; omega
  simp at hll
  refine ⟨by simp; omega, by simp; omega, ?_⟩
  have hf : Fo n (.tup (l.take x ++ w :: l.drop (x + 1))) := ⟨_, rfl, by simp; omega, fun q hq => by
    rcases List.mem_append.mp hq with z | z
    · exact h q (List.mem_of_mem_take z)
    · rcases List.mem_cons.mp z with rfl | z
      · exact hw
      · exact h q (List.mem_of_mem_drop z)⟩
  refine Gc.same (by simpa using hf.cl) ?_
  simpa using q _ hf
theorem fo_at (hp : Fo n p) (hx : x < n) : ∃ w, (∀ (Q : PV → Store → Prop) st, Q w st → wp (pIx p (.int x) st) Q) ∧ dab 5 w = true := by
  obtain ⟨l, rfl, hl, h⟩ := hp
  obtain ⟨w, e1, e2, _⟩ := atI_some (l := l) (i := (x : Int)) (by omega) (by omega)
  exact ⟨w, fun Q st hq => by simp [e1]; exact hq, h w e2⟩
def FoL (n : Nat) (T : List PV) : Prop := ∀ p ∈ T, Fo n p
theorem FoL.cls {T : List PV} (h : FoL n T) : cls T = true := cls_iff.mpr fun p hp => (h p hp).cl
theorem moved_spec (hs : SrcAt st s) (hR : okR R) (h1 : 1 ≤ R.length) (hp : Fo R.length p) (q : ∀ T st', FoL R.length T → T.length ≤ 10000 → Dr s st st' → Q (.lst T) st') : wp (d__law_moved [.ref s, rv R, p] st) Q := by
  refine wp_fn ?_
  have hlt := hs.lt
  have h24 := hR.1
  simp [rv, rgN (show R.length ≤ 1000 by omega)]
  rw [rgP_nat]
  refine wp_lcA nv _ (fun i hi => by simp [wipeA, nv]) ?_
  simp
  refine ⟨by omega, ?_⟩
  -- the walk over the things
  have main : ∀ (L : List Nat) (x0 : Store) (N : AE → Store → Prop), (∀ a ∈ L, a < R.length) → L.length ≤ 24 → Dr s st x0 →
      (∀ (T : List PV) (x1 : Store), FoL R.length T → T.length ≤ 9000 → Dr s st x1 → N [some (.ref s), some (rv R), some p, some (.lst (L.map nv)), none, some (.int R.length), some (.ref st.length), none, none] (x1 ++ [.lst T])) →
      wps (forL (tName 4) (sSeq (sExpr (dM isL mAppend (dVar 6) (dAc (dAl d__law_placed (dAc (dVar 2) (dAc (dVar 4) (dAc (dC .non) dA0)))) dA0)))
        (sFor (iRg1 (dVar 5)) (tName 7) (sExpr (dM isL mExtend (dVar 6) (dAc (dCompL (iRg1 (d2 pAdd (d2 pIx (dVar 1) (dVar 7)) (dC (.int 1)))) (tName 8) bYes (dAl d__law_placed (dAc (dVar 2) (dAc (dVar 4) (dAc (dAl mTup (dAc (dVar 7) (dAc (dVar 8) dA0))) dA0)))) [8] mLst) dA0))) [7])) [4, 7] (fun _ => true) (L.map nv) [some (.ref s), some (rv R), some p, some (.lst (L.map nv)), none, some (.int R.length), some (.ref st.length), none, none] (x0 ++ [.lst [p]])) N (fun v st' => Gc st v st' Q) (fun _ _ => False) (fun _ _ => False) := by
    intro L x0 N hL hLl hd hN
    have hl0 := hd.len
    refine wps_forM (fun r σ st' => ∃ T : List PV, σ = [some (.ref s), some (rv R), some p, some (.lst (L.map nv)), none, some (.int R.length), some (.ref st.length), none, none] ∧ st' = x0 ++ [.lst T] ∧ FoL R.length T ∧ T.length + 200 * r.length ≤ 8000 ∧ ∀ a ∈ r, a ∈ L) _ ?_ ?_ ⟨[p], rfl, rfl, fun a ha => by simp at ha; subst ha; exact hp, by simp; omega, fun _ h => h⟩
    · rintro I hI a r σ st' ⟨T, rfl, rfl, hT, hTl, hm⟩
      have haR := hL a (hm a List.mem_cons_self)
      simp only [List.length_cons] at hTl
      simp
      refine ⟨isL_ref (l := T) (by rw [app_get0 hl0]; rfl), ?_⟩
      simp [nv]
      refine placed_spec hp haR (by omega) (by simp [dab]) fun p1 hp1 => ?_
      refine wp_append (l := T) (by rw [app_get0 hl0]; rfl) (by simp only [SZ_lit]; omega) ?_
      rw [app_set0 hl0]
      simp [rgN (show R.length ≤ 1000 by omega)]
      refine wps_forRo (fun i σ st' => ∃ (T' : List PV) (k : Nat), i = (k : Int) ∧ k ≤ R.length ∧ σ = [some (.ref s), some (rv R), some p, some (.lst (L.map nv)), some (.int a), some (.int R.length), some (.ref st.length), none, none] ∧ st' = x0 ++ [.lst T'] ∧ FoL R.length T' ∧ T'.length ≤ T.length + 1 + 5 * k) ?_ ?_ ⟨T ++ [p1], 0, rfl, by omega, by simp [nv], rfl, fun b hb => by
        rcases List.mem_append.mp hb with h | h
        · exact hT b h
        · simp at h; subst h; exact hp1, by simp⟩
      · rintro J hJ i σ st' ⟨T', k, rfl, hk, rfl, rfl, hT', hTl'⟩ hi
        have hk' : k < R.length := by omega
        have h4 := rm_le (x := k) hR
        simp
        refine ⟨isL_ref (l := T') (by rw [app_get0 hl0]; rfl), ?_⟩
        simp [rv, atI_rv hk']
        have e : ((rm R k : Int) + 1) = ((rm R k + 1 : Nat) : Int) := by omega
        rw [e]
        refine ⟨rgN (by omega), ?_⟩
        rw [rgP_nat]
        refine wp_lcM (fun (r : List Nat) acc st' => st' = x0 ++ [.lst T'] ∧ FoL R.length acc ∧ acc.length + r.length ≤ 5) _ _ ?_ ?_ ⟨rfl, fun _ h => (by cases h), by simp; omega⟩
        · rintro K hK c r acc st' ⟨rfl, hacc, hal⟩
          simp [wipeA]
          refine placed_spec hp haR (by omega) (by simp [dab]) fun p2 hp2 => hK _ _ _ ⟨rfl, fun b hb => ?_, by simp at hal ⊢; omega⟩
          rcases List.mem_append.mp hb with h | h
          · exact hacc b h
          · simp at h; subst h; exact hp2
        · rintro acc st' ⟨rfl, hacc, hal⟩
          simp at hal
          try simp
          refine ⟨by omega, ?_⟩
          refine wp_extend (l := T') (m := acc) (by rw [app_get0 hl0]; rfl) rfl (by simp only [SZ_lit]; omega) ?_
          rw [app_set0 hl0]
          simp [wipeA]
          refine hJ _ _ _ ⟨T' ++ acc, k + 1, by omega, by omega, rfl, rfl, fun b hb => ?_, by simp; omega⟩
          rcases List.mem_append.mp hb with h | h
          · exact hT' b h
          · exact hacc b h
      · rintro i σ st' ⟨T', k, rfl, hk, rfl, rfl, hT', hTl'⟩ hi
        simp [wipeA]
        exact hI _ _ _ ⟨T', rfl, rfl, hT', by omega, fun b hb => hm b (List.mem_cons_of_mem _ hb)⟩
    · rintro σ st' ⟨T, rfl, rfl, hT, hTl, hm⟩
      simp [wipeA]
      exact hN T x0 hT (by omega) hd
  have hnn : ∀ (T : List PV) (x1 : Store), FoL R.length T → T.length ≤ 9000 → Dr s st x1 → wp (_law_take [.ref s, .int R.length] (x1 ++ [.lst T])) fun x st_2 => wp (_law_take [.ref s, .int R.length] st_2) fun x_1 st_3 => isL (.ref st.length) st_3 = true ∧ wp (pIx p x_1 st_3) fun x_2 st_4 => wp (d__law_placed [p, x, x_2] st_4) fun x_3 st_5 => wp (pIx p x st_5) fun x_4 st_6 => wp (d__law_placed [x_3, x_1, x_4] st_6) fun x_5 st_7 => wp (mAppend (.ref st.length) [x_5] st_7) fun _ st' => Gc st (.ref st.length) st' Q := by
    intro T x1 hT hTl hd
    refine takeN (hd.src hs).app (by omega) (by omega) fun u st2 hu hd2 => ?_
    obtain ⟨x2, rfl, hd3⟩ := Dr.app (by rw [hd.len]; omega) hd2
    have hd4 := hd.trans hd3
    refine takeN (hd4.src hs).app (by omega) (by omega) fun v st3 hv hd5 => ?_
    obtain ⟨x3, rfl, hd6⟩ := Dr.app (by rw [hd4.len]; omega) hd5
    have hd7 := hd4.trans hd6
    have hl7 := hd7.len
    refine ⟨isL_ref (l := T) (by rw [app_get0 hl7]; rfl), ?_⟩
    obtain ⟨w1, hw1, dw1⟩ := fo_at hp hv
    refine hw1 _ _ ?_
    refine placed_spec hp hu (by omega) dw1 fun p1 hp1 => ?_
    obtain ⟨w2, hw2, dw2⟩ := fo_at hp hu
    refine hw2 _ _ ?_
    refine placed_spec hp1 hv (by omega) dw2 fun p2 hp2 => ?_
    refine wp_append (l := T) (by rw [app_get0 hl7]; rfl) (by simp only [SZ_lit]; omega) ?_
    rw [app_set0 hl7]
    have hT2 : FoL R.length (T ++ [p2]) := fun b hb => by
      rcases List.mem_append.mp hb with h | h
      · exact hT b h
      · simp at h; subst h; exact hp2
    exact Gc.lst (s := s) (x := x3) (junk := [.lst (T ++ [p2])]) (n := st.length) (l := T ++ [p2]) hT2.cls hd7 rfl (Nat.le_refl _) (by rw [app_get0 hl7]; rfl) (q (T ++ [p2]) x3 hT2 (by simp; omega) hd7)
  by_cases h3 : 3 < R.length
  · rw [cnd_pos (decide_eq_true (by omega))]
    refine takeN hs.app (by omega) (by omega) fun k st2 hk hd => ?_
    obtain ⟨x0, rfl, hd1⟩ := Dr.app hlt hd
    try simp
    refine main [k] x0 _ (fun a ha => by simp at ha; omega) (by simp) hd1 fun T x1 hT hTl hd2 => ?_
    simp
    exact hnn T x1 hT hTl hd2
  · rw [cnd_neg (decide_eq_false (by omega))]
    refine main (List.range R.length) st _ (fun a ha => by simpa using ha) (by simp; omega) .refl fun T x1 hT hTl hd2 => ?_
    simp
    exact hnn T x1 hT hTl hd2
end
end K12
set_option Elab.async false
set_option linter.all false
set_option maxRecDepth 100000
set_option maxHeartbeats 4000000
/-! K12N: odd forests, no books. -/
namespace K12
open PySem PySem.Spec PyProof.Rows L2 DN Lib
section
variable {Q : PV → Store → Prop} {st : Store} {F : List Pl} {R : List Nat} {x y n s : Nat} {p f : PV}
theorem wp_lcO {σ : AE} {t : DT} {c : DB} {e : DE} {QL : List PV → Store → Prop} (P : List PV → List PV → Store → Prop) (l : List PV)
    (hs : ∀ I : List PV → List PV → Store → Prop, (∀ i σ st, P i σ st → I i σ st) → ∀ p r acc st, P (p :: r) acc st → wp (t p σ st) fun σ1 st1 => wp (c σ1 st1) fun b st2 => cnd b (wp (e σ1 st2) fun v st3 => I r (acc ++ [v]) st3) (I r acc st2))
    (hf : ∀ acc st, P [] acc st → QL acc st) (h : P l [] st) : wp (lcI t c e (fun _ => true) σ l st) QL := by
  have := wp_lcM (g := id) (σ := σ) (t := t) (c := c) (e := e) (QL := QL) P l st hs hf h
  simpa using this
theorem odd_spec (hs : SrcAt st s) (hR : okR R) (h1 : 1 ≤ R.length) (hp : Fo R.length p) (q : ∀ T st', (∀ t ∈ T, dab 20 t = true) → T.length ≤ 100 → Dr s st st' → Q (.lst T) st') : wp (d__law_odd [.ref s, rv R, p] st) Q := by
  refine wp_fn ?_
  have hlt := hs.lt
  have h24 := hR.1
  simp [rv]
  refine takeN hs (by omega) (by omega) fun x st1 hx hd => ?_
  refine takeN (hd.src hs) (by omega) (by omega) fun y st2 hy hd2 => ?_
  have hd := hd.trans hd2
  have hl := hd.len
  refine wp_lcO (fun r acc st' => st' = st2 ∧ FoL R.length acc ∧ acc.length + r.length ≤ 9 ∧ ∀ t ∈ r, dab 5 t = true) _ ?_ ?_ ⟨rfl, fun _ h => (by cases h), by simp, ?_⟩
  · rintro I hI t r acc st' ⟨rfl, hacc, hal, hr⟩
    simp [wipeA]
    refine placed_spec hp hx (by omega) (hr t List.mem_cons_self) fun p2 hp2 => hI _ _ _ ⟨rfl, fun b hb => ?_, by simp at hal ⊢; omega, fun b hb => hr b (List.mem_cons_of_mem _ hb)⟩
    rcases List.mem_append.mp hb with h | h
    · exact hacc b h
    · simp at h; subst h; exact hp2
  · rintro acc st' ⟨rfl, hacc, hal, hr⟩
    simp at hal
    obtain ⟨l, rfl, hll, hlq⟩ := hp
    have hd9 : ∀ t ∈ l, dab 19 t = true := fun t ht => dab_mono (by omega) (hlq t ht)
    have ok1 : PyData.strOk (Str.ofString "floor") = true := by decide +kernel
    have ok2 : PyData.strOk (Str.ofString "apart") = true := by decide +kernel
    have ok3 : PyData.strOk (Str.ofString "form") = true := by decide +kernel
    refine ⟨by omega, isL_ref (l := acc) (by simp), ?_⟩
    refine one_spec (hd.src hs).app (by simp) (by simp) (by simp) fun v st3 hv hd3 => ?_
    obtain ⟨x3, rfl, hd4⟩ := Dr.app (by omega) hd3
    have hd5 := hd.trans hd4
    have hl5 := hd5.len
    have hv5 : dab 5 v = true := by
      simp only [List.mem_cons, List.not_mem_nil, or_false] at hv
      rcases hv with rfl | rfl | rfl | rfl | rfl | rfl | rfl | rfl <;> simp [dab, ok1, ok2]
    refine placed_spec ⟨l, rfl, hll, hlq⟩ hx (by omega) hv5 fun p2 hp2 => ?_
    refine wp_append (l := acc) (by rw [hl, ← hl5]; simp) (by simp only [SZ_lit]; omega) ?_
    rw [hl, app_set0 hl5]
    refine ⟨isL_ref (l := acc ++ [p2]) (by rw [app_get0 hl5]; rfl), ?_⟩
    have hcl : (cut l none (some ((R.length : Int) - 1))).all (dab 19) = true := by
      rw [List.all_eq_true]
      intro t ht
      refine hd9 t ?_
      unfold cut at ht
      exact List.mem_of_mem_drop (List.mem_of_mem_take ht)
    simp
    refine ⟨by omega, ?_⟩
    generalize cut l none (some ((R.length : Int) - 1)) = l2 at hcl
    refine wp_extend (l := acc ++ [p2]) (by rw [app_get0 hl5]; rfl) rfl (by simp; omega) ?_
    rw [app_set0 hl5]
    have hall : ∀ t ∈ acc ++ [p2] ++ [.tup (l ++ [.non]), .tup l2, .tup [.tup l], .non, .bl true, .int 0, .str (Str.ofString "form")], dab 20 t = true := by
      intro t ht
      simp only [List.mem_append, List.mem_cons, List.not_mem_nil, or_false] at ht
      rcases ht with (h | rfl) | rfl | rfl | rfl | rfl | rfl | rfl | rfl
      · exact (hacc t h).dab
      · exact hp2.dab
      · simp [dab]; exact hd9
      · simpa [dab] using hcl
      · simp [dab]; exact fun t ht => dab_mono (by omega) (hlq t ht)
      · simp [dab]
      · simp [dab]
      · simp [dab]
      · simp [dab, ok3]
    refine Gc.lst (s := s) (x := x3) (junk := [.lst (acc ++ [p2] ++ [.tup (l ++ [.non]), .tup l2, .tup [.tup l], .non, .bl true, .int 0, .str (Str.ofString "form")])]) (n := st.length) (l := acc ++ [p2] ++ [.tup (l ++ [.non]), .tup l2, .tup [.tup l], .non, .bl true, .int 0, .str (Str.ofString "form")]) (cls_iff.mpr fun t ht => dab_cl (hall t ht)) hd5 rfl (Nat.le_refl _) (by rw [app_get0 hl5]; rfl) ?_
    exact q _ x3 hall (by simp; omega) hd5
  · simp [dab]
theorem lenRv : wp (qLen [rv R] st) Q = Q (.int R.length) st := by simp [rv]
theorem slRv {lo hi : Option Int} : wp (pSl (rv R) lo hi st) Q = Q (.tup (cut (R.map nv) lo hi)) st := by simp [rv]
theorem nvS {l : List PV} {v : PV} {R : List Nat} (h : l ++ [v] = R.map nv) : ∃ r, v = nv r ∧ r ∈ R := by
  have : v ∈ R.map nv := by rw [← h]; simp
  obtain ⟨r, hr, e⟩ := List.mem_map.mp this
  exact ⟨r, e.symm, hr⟩
theorem syS {l : List PV} {v : PV} {S : List Sy} (h : l ++ [v] = S.map syv) : ∃ z, v = syv z ∧ z ∈ S := by
  have : v ∈ S.map syv := by rw [← h]; simp
  obtain ⟨r, hr, e⟩ := List.mem_map.mp this
  exact ⟨r, e.symm, hr⟩
theorem no_book_spec {S : List Sy} (hs : SrcAt st s) (hR : okR R) (h1 : 1 ≤ R.length) (hS : ∀ z ∈ S, okSy R z) (hSl : S.length ≤ 100) (q : ∀ b st', dab 20 b = true → ¬ IsB b → Dr s st st' → Q b st') : wp (d__law_no_book [.ref s, bv R S] st) Q := by
  refine wp_fn ?_
  have hlt := hs.lt
  have h24 := hR.1
  have ok2 : PyData.strOk (Str.ofString "apart") = true := by decide +kernel
  have ok3 : PyData.strOk (Str.ofString "book") = true := by decide +kernel
  have dR : dab 19 (rv R) = true := dab_rv
  have dS : dab 19 (.tup (S.map syv)) = true := by
    simp [dab]
    exact fun z _ => dab_syv (by omega)
  have dS2 : (S.map syv).all (dab 18) = true := by simpa only [dab] using dS
  have fin : ∀ b st', dab 20 b = true → ¬ IsB b → Dr s st st' → Gc st b st' Q := fun b st' h1 h2 h3 => Gc.dr0 (s := s) (dab_cl h1) h3 (q b st' h1 h2 h3)
  simp [bv, lenRv, slRv]
  refine takeN (top := 6) hs (by omega) (by omega) fun k st1 hk hd => ?_
  simp
  refine ⟨fun _ => ?_, fun _ => ⟨fun _ => ?_, fun _ => ?_⟩⟩
  · refine one_spec (hd.src hs) (by simp) (by simp) ?_ fun v st3 hv hd3 => ?_
    · simp [rv, cls_syvs, cls_nvs]
    · refine fin v st3 ?_ ?_ (hd.trans hd3)
      · simp only [List.mem_cons, List.not_mem_nil, or_false] at hv
        rcases hv with rfl | rfl | rfl | rfl | rfl | rfl | rfl <;> simp only [dab, List.all_cons, List.all_nil, dR, dS2, ok3, Bool.and_self]
      · rintro ⟨R', S', e, hB⟩
        simp only [List.mem_cons, List.not_mem_nil, or_false] at hv
        rcases hv with rfl | rfl | rfl | rfl | rfl | rfl | rfl <;> simp [bv, rv] at e
  · have hcl : (cut (R.map nv) none (some ((R.length : Int) - 1))).all (dab 18) = true := by
      rw [List.all_eq_true]
      intro t ht
      unfold cut at ht
      exact List.all_eq_true.mp dab_nvs t (List.mem_of_mem_drop (List.mem_of_mem_take ht))
    have hcl2 : (cut (R.map nv) none (some ((R.length : Int) - 1))).length ≤ R.length := by
      unfold cut
      simp
      omega
    generalize cut (R.map nv) none (some ((R.length : Int) - 1)) = l2 at hcl hcl2
    refine one_spec (hd.src hs) (by simp) (by simp) (by simp) fun v st3 hv hd3 => ?_
    try simp
    refine ⟨by omega, fin _ st3 ?_ ?_ (hd.trans hd3)⟩
    · have hv18 : dab 18 v = true := by
        simp only [List.mem_cons, List.not_mem_nil, or_false] at hv
        rcases hv with rfl | rfl | rfl | rfl | rfl <;> simp [dab]
      have : dab 19 (.tup (l2 ++ [v])) = true := by
        simp only [dab, List.all_append, hcl, List.all_cons, List.all_nil, hv18, Bool.and_self]
      simp only [dab, List.all_cons, List.all_nil, Bool.and_true, Bool.and_eq_true] at this dS ⊢
      exact ⟨this, dS⟩
    · rintro ⟨R', S', e, hB⟩
      simp only [bv, rv, PV.tup.injEq, List.cons.injEq, and_true] at e
      obtain ⟨r, rfl, hr⟩ := nvS e.1
      have := hB.1.2 r hr
      simp [nv] at hv
      omega
  · refine one_spec (hd.src hs) (by simp) (by simp) (by simp) fun v st3 hv hd3 => ?_
    try simp
    refine ⟨by omega, fin _ st3 ?_ ?_ (hd.trans hd3)⟩
    · have hv18 : dab 18 v = true := by
        simp only [List.mem_cons, List.not_mem_nil, or_false] at hv
        rcases hv with rfl | rfl | rfl | rfl | rfl | rfl | rfl | rfl <;> simp [dab, ok2]
      have : dab 19 (.tup (S.map syv ++ [v])) = true := by
        simp only [dab] at dS
        simp only [dab, List.all_append, dS, List.all_cons, List.all_nil, hv18, Bool.and_self]
      simp only [dab, List.all_cons, List.all_nil, Bool.and_true, Bool.and_eq_true] at this dR ⊢
      exact ⟨dR, this⟩
    · rintro ⟨R', S', e, hB⟩
      simp only [bv, PV.tup.injEq, List.cons.injEq, and_true] at e
      have hRR := rv_inj e.1
      subst hRR
      obtain ⟨z, rfl, hz⟩ := syS e.2
      obtain ⟨z1, z2, z3, z4⟩ := hB.2.2 z hz
      simp only [List.mem_cons, List.not_mem_nil, or_false] at hv
      have inj : ∀ {a b : Int} {w : PV}, syv z = .tup [.int a, .int b, w] → (z.x : Int) = a ∧ (z.y : Int) = b ∧ .tup (z.lot.map sv) = w := fun e => by
        simp only [syv, PV.tup.injEq, List.cons.injEq, and_true, PV.int.injEq] at e
        exact e
      rcases hv with hv | hv | hv | hv | hv | hv | hv | hv
      · have := inj hv; omega
      · have := inj hv; omega
      · have := inj hv; omega
      · have := inj hv; omega
      · simp [syv] at hv
      · simp [syv] at hv
      · simp [syv] at hv
      · have h3 := (inj hv).2.2
        cases hz2 : z.lot with
        | nil => rw [hz2] at h3; simp at h3
        | cons a L =>
          rw [hz2] at h3
          simp only [List.map_cons, PV.tup.injEq, List.cons.injEq] at h3
          have h4 := h3.1
          cases a with
          | ap => simp [sv] at h4
          | inn r => simp only [sv, PV.tup.injEq, List.cons.injEq, PV.str.injEq] at h4; exact absurd h4.1 (by decide +kernel)
          | aro r => simp only [sv, PV.tup.injEq, List.cons.injEq, PV.str.injEq] at h4; exact absurd h4.1 (by decide +kernel)
end
end K12
set_option Elab.async false
set_option linter.all false
set_option maxRecDepth 100000
set_option maxHeartbeats 4000000
/-! K12M: the law holds of what the defs compute. -/
namespace K12
open PySem PySem.Spec PyProof.Rows L2 DN Lib
theorem okB_take {R : List Nat} {S : List Sy} {k : Nat} (h : okB R S) : okB R (S.take k) := ⟨h.1, by have := h.2.1; simp; omega, fun z hz => h.2.2 z (List.mem_of_mem_take hz)⟩
theorem dab_bv {R : List Nat} {S : List Sy} : dab 20 (bv R S) = true := by
  have h1 : dab 19 (rv R) = true := dab_rv
  have h2 : dab 19 (.tup (S.map syv)) = true := by
    simp [dab]
    exact fun z _ => dab_syv (by omega)
  simp only [bv, dab, List.all_cons, List.all_nil, Bool.and_true, Bool.and_eq_true] at h1 h2 ⊢
  exact ⟨h1, h2⟩
open Classical in
theorem keeps_eq {R : List Nat} {S : List Sy} {f : PV} (hB : okB R S) : Keeps (bv R S) f ↔ ∃ F, f = fv F ∧ okF R F ∧ noR F ∧ ∀ x, x < F.length → ∀ y, y < x → std F x y ∈ tbl R S x y := by
  constructor
  · rintro ⟨R', S', F, e1, e2, h1, h2, h3, h4⟩
    simp only [bv, PV.tup.injEq, List.cons.injEq, and_true] at e1
    have := rv_inj e1.1
    subst this
    have : S = S' := (List.map_inj_right (fun a b h => by
      simp only [syv, PV.tup.injEq, List.cons.injEq, and_true, PV.int.injEq] at h
      obtain ⟨a1, a2, a3⟩ := h
      have a3 := (List.map_inj_right (fun _ _ => sv_inj)).mp a3
      obtain ⟨ax, ay, al⟩ := a
      obtain ⟨bx, bY, bl⟩ := b
      simp only at a1 a2 a3
      have a1 : ax = bx := by omega
      have a2 : ay = bY := by omega
      rw [a1, a2, a3])).mp e1.2
    subst this
    exact ⟨F, e2, h2, h3, (kept_iff h2 h3 h1.2.2).mpr h4⟩
  · rintro ⟨F, e, h1, h2, h3⟩
    exact ⟨R, S, F, rfl, e, hB, h1, h2, (kept_iff h1 h2 hB.2.2).mp h3⟩
theorem wp_isNotBB {Q : PV → Store → Prop} {st : Store} {a b : Bool} : wp (pIsNot (.bl a) (.bl b) st) Q = Q (.bl (!decide (a = b))) st := by unfold wp; rfl
theorem wp_isBB {Q : PV → Store → Prop} {st : Store} {b : Bool} : wp (qIsI [.bl b, .ty "bool"] st) Q = Q (.bl true) st := by unfold wp; rfl
open Classical in
theorem due_spec {Q : PV → Store → Prop} {st : Store} {R : List Nat} {S : List Sy} {t : PV} {es : List (List Key × PV)} (hB : okB R S) (hT : Tb es R.length (tbl R S)) (ht : dab 20 t = true) (q : Q (.bl (decide (Keeps (bv R S) t))) st) : wp (_law_is_forest [rv R, t] st) fun p st => wp (DN.tB p st) fun b st => cnd b (wp (_law_kept [fzT es, t] st) Q) (Q (.bl false) st) := by
  refine law_forest_spec hB.1 ht ?_
  simp
  by_cases hF : IsF R t
  · rw [cnd_pos (decide_eq_true hF)]
    obtain ⟨F, rfl, hF, hn⟩ := hF
    refine kept_spec hF.wf (by have := hF.1; have := hB.1.1; omega) (by rw [hF.1]; exact hT) ?_
    have e : decide (Keeps (bv R S) (fv F)) = decide (∀ x, x < F.length → ∀ y, y < x → std F x y ∈ tbl R S x y) := by
      rw [decide_eq_decide, keeps_eq hB]
      constructor
      · rintro ⟨G, e, _, _, h⟩
        cases fv_inj e
        exact h
      · exact fun h => ⟨F, rfl, hF, hn, h⟩
    rw [← e]
    exact q
  · rw [cnd_neg (decide_eq_false hF)]
    have e : decide (Keeps (bv R S) t) = false := decide_eq_false fun h => by
      obtain ⟨F, rfl, h1, h2, _⟩ := (keeps_eq hB).mp h
      exact hF ⟨F, rfl, h1, h2⟩
    rw [← e]
    exact q
open Classical in
theorem law_true (ns : List Int) (_ : ns.length ≤ 63) (_ : ∀ z ∈ ns, Builtin.Int.intBits z ≤ 1048576) : ∃ st, d_law [.scr (ns.map PV.int)] [] = .ok (.bl true) st := by
  have key : wp (d_law [.scr (ns.map PV.int)] []) fun v _ => v = .bl true := by
    refine wp_fn ?_
    have hr : rgOk 2 = true := rgN (n := 2) (by omega)
    simp [hr]
    refine wps_forRo (fun i σ st' => ∃ k : Nat, i = k ∧ σ = [some (.scr (ns.map PV.int)), none, none, none, none, none, none, none, none, none, none, none, none, none]) ?_ ?_ ⟨0, rfl, rfl⟩
    · rintro I hI i σ st ⟨k, rfl, rfl⟩ hi
      have hk : k < 2 := by omega
      simp
      refine pool_spec (by omega) (by omega) fun a b ha hb => ?_
      have hs : SrcAt (st ++ [.lst [.int a, .int b]]) st.length := ⟨a, b, by simp, ha, hb⟩
      generalize st ++ [SO.lst [.int a, .int b]] = st1 at hs
      generalize st.length = s at hs
      have e6 : (6 : Int) - 2 * k = ((6 - 2 * k : Nat) : Int) := by omega
      rw [e6]
      refine world_spec (m := 6 - 2 * k) (said := 9) hs (by omega) (by omega) fun R S st2 hR h1 hS hSl hd => ?_
      have hB : okB R S := ⟨hR, by omega, hS⟩
      have hB2 : okB R (S.take (S.length / 2)) := okB_take hB
      have eh : ((S.length : Int) / 2) = ((S.length / 2 : Nat) : Int) := by omega
      simp
      rw [eh, cut_take, ← List.map_take]
      have hS2l : (S.take (S.length / 2)).length ≤ 9 := by simp; omega
      generalize S.take (S.length / 2) = S2 at hB2 hS2l ⊢
      refine table_spec rfl hR (by omega) hS fun es T0 C0 => ?_
      refine table_spec rfl hR (by omega) hB2.2.2 fun es2 T2 C2 => ?_
      have hs2 := hd.src hs
      refine solved_spec hR T0 (fun L => ?a) (fun F hF hh => ?b)
      case' a =>
        simp
        refine grown_spec hs2 hR fun F st3 hF0 hn hd3 => ?_
        have hfo : Fo R.length (fv F) := fo_fv hF0.1
        have hs3 := hd3.src hs2
        clear hd hs2 hs hd3 hn hF0
      case' b =>
        simp
        rw [cnd_neg (show DN.isNon (fv F) = false from rfl)]
        have hfo : Fo R.length (fv F) := fo_fv hF
        have hs3 := hs2
        clear hs hd hs2 hh hF
        revert hs3
        generalize st2 = st3
        intro hs3
      all_goals
        generalize fv F = p at hfo ⊢
        refine moved_spec hs3 hR h1 hfo fun T st4 hT hTl hd4 => ?_
        have hs4 := hd4.src hs3
        simp
        refine ⟨by omega, ?_⟩
        refine odd_spec hs4 hR h1 hfo fun U st5 hU hUl hd5 => ?_
        have hs5 := hd5.src hs4
        simp
        refine ⟨by omega, ?_⟩
        have hW : ∀ t ∈ p :: (T ++ U), dab 20 t = true := by
          intro t ht
          rcases List.mem_cons.mp ht with rfl | ht
          · exact hfo.dab
          · rcases List.mem_append.mp ht with h | h
            · exact (hT t h).dab
            · exact hU t h
        have hWl : (p :: (T ++ U)).length ≤ 20000 := by simp; omega
        have hWe : ((T.length : Int) + U.length + 1) = ((p :: (T ++ U)).length : Nat) := by simp
        rw [hWe]
        generalize p :: (T ++ U) = W at hW hWl
        refine ⟨rgOk_small (by omega) (by omega), ?_⟩
        refine wps_forRo (fun i σ st' => ∃ j : Nat, i = j ∧ j ≤ W.length ∧ σ = [some (.scr (ns.map PV.int)), some (.int k), some (.ref s), some (.lst (S2.map syv)), some p, some (.lst W), none, some (rv R), some (.lst (S.map syv)), some (.lst [bv R S, bv R S2]), some (.lst [fzT es, fzT es2]), none, none, none] ∧ st' = st5) ?_ ?_ ⟨0, rfl, by omega, rfl, rfl⟩
        · rintro J hJ i σ st' ⟨j, rfl, hj, rfl, rfl⟩ hi2
          have hjW : j < W.length := by omega
          have hat : atI W (j : Int) = some W[j] := by
            have := atI_map (f := id) hjW
            simpa using this
          have hWj := hW W[j] (List.getElem_mem hjW)
          generalize W[j] = t at hat hWj
          have next : J ((j : Int) + 1) [some (.scr (ns.map PV.int)), some (.int k), some (.ref s), some (.lst (S2.map syv)), some p, some (.lst W), none, some (rv R), some (.lst (S.map syv)), some (.lst [bv R S, bv R S2]), some (.lst [fzT es, fzT es2]), none, none, none] st' := hJ _ _ _ ⟨j + 1, by omega, by omega, rfl, rfl⟩
          by_cases hj0 : j = 0
          · subst hj0
            have hat0 : atI W 0 = some t := hat
            simp [hat0]
            refine keeps_spec dab_bv hWj ?_
            refine due_spec hB T0 hWj ?_
            simp [wp_isBB, wp_neBB, wipeA]
            simpa using next
          · simp
            rw [cnd_neg (decide_eq_false (by omega))]
            rcases (show ((j : Int) + k) % 2 = 0 ∨ ((j : Int) + k) % 2 = 1 by omega) with em | em
            · rw [em]
              simp [hat]
              refine keeps_spec dab_bv hWj ?_
              refine due_spec hB T0 hWj ?_
              simp [wp_isBB, wp_neBB, wipeA]
              exact next
            · rw [em]
              simp [hat]
              refine keeps_spec dab_bv hWj ?_
              refine due_spec hB2 T2 hWj ?_
              simp [wp_isBB, wp_neBB, wipeA]
              exact next
        · rintro i σ st' ⟨j, rfl, hj, rfl, rfl⟩ hi2
          simp [wipeA]
          refine no_book_spec hs5 hR h1 hS (by omega) fun b st6 hb hnb hd6 => ?_
          try simp
          refine keeps_spec hb hfo.dab ?_
          rw [decide_eq_false (fun h : Keeps b p => by obtain ⟨R', S', _, e, _, h, _⟩ := h; exact hnb ⟨R', S', e, h⟩)]
          simp [wp_isNotBB]
          exact hI _ _ _ ⟨k + 1, by omega, rfl⟩
    · rintro i σ st ⟨k, rfl, rfl⟩ hi
      try simp [wipeA]
      exact Gc.pure (junk := st) (by simp) (by simp) rfl
  obtain ⟨a, st, e, rfl⟩ := wp_ok_of key
  exact ⟨st, e⟩
end K12
set_option Elab.async false
set_option linter.all false
set_option maxRecDepth 100000
set_option maxHeartbeats 0
/-! K12E: the law. Printed by gen.py. -/
namespace K12
open PySem PySem.Spec PyProof.Rows L2 DN
def dd__law_pool : He.DefD := ⟨("_law_pool", none), "_law_pool", "_law_pool", defArgs s__law_pool, defBody s__law_pool, defScope s__law_pool, [], []⟩
def dd__law_take : He.DefD := ⟨("_law_take", none), "_law_take", "_law_take", defArgs s__law_take, defBody s__law_take, defScope s__law_take, [], []⟩
def dd__law_one : He.DefD := ⟨("_law_one", none), "_law_one", "_law_one", defArgs s__law_one, defBody s__law_one, defScope s__law_one, [], []⟩
def dd__law_rooms : He.DefD := ⟨("_law_rooms", none), "_law_rooms", "_law_rooms", defArgs s__law_rooms, defBody s__law_rooms, defScope s__law_rooms, [], []⟩
def dd__law_two : He.DefD := ⟨("_law_two", none), "_law_two", "_law_two", defArgs s__law_two, defBody s__law_two, defScope s__law_two, [], []⟩
def dd__law_every : He.DefD := ⟨("_law_every", none), "_law_every", "_law_every", defArgs s__law_every, defBody s__law_every, defScope s__law_every, [], []⟩
def dd__law_loose : He.DefD := ⟨("_law_loose", none), "_law_loose", "_law_loose", defArgs s__law_loose, defBody s__law_loose, defScope s__law_loose, [], []⟩
def dd__law_mixed : He.DefD := ⟨("_law_mixed", none), "_law_mixed", "_law_mixed", defArgs s__law_mixed, defBody s__law_mixed, defScope s__law_mixed, [], []⟩
def dd__law_grown : He.DefD := ⟨("_law_grown", none), "_law_grown", "_law_grown", defArgs s__law_grown, defBody s__law_grown, defScope s__law_grown, [], []⟩
def dd__law_climb : He.DefD := ⟨("_law_climb", none), "_law_climb", "_law_climb", defArgs s__law_climb, defBody s__law_climb, defScope s__law_climb, [], []⟩
def dd__law_standing : He.DefD := ⟨("_law_standing", none), "_law_standing", "_law_standing", defArgs s__law_standing, defBody s__law_standing, defScope s__law_standing, [], []⟩
def dd__law_saying : He.DefD := ⟨("_law_saying", none), "_law_saying", "_law_saying", defArgs s__law_saying, defBody s__law_saying, defScope s__law_saying, [], []⟩
def dd__law_sayings : He.DefD := ⟨("_law_sayings", none), "_law_sayings", "_law_sayings", defArgs s__law_sayings, defBody s__law_sayings, defScope s__law_sayings, [], []⟩
def dd__law_world : He.DefD := ⟨("_law_world", none), "_law_world", "_law_world", defArgs s__law_world, defBody s__law_world, defScope s__law_world, [], []⟩
def dd__law_parts : He.DefD := ⟨("_law_parts", none), "_law_parts", "_law_parts", defArgs s__law_parts, defBody s__law_parts, defScope s__law_parts, [], []⟩
def dd__law_less : He.DefD := ⟨("_law_less", none), "_law_less", "_law_less", defArgs s__law_less, defBody s__law_less, defScope s__law_less, [], []⟩
def dd__law_over : He.DefD := ⟨("_law_over", none), "_law_over", "_law_over", defArgs s__law_over, defBody s__law_over, defScope s__law_over, [], []⟩
def dd__law_free : He.DefD := ⟨("_law_free", none), "_law_free", "_law_free", defArgs s__law_free, defBody s__law_free, defScope s__law_free, [], []⟩
def dd__law_solved : He.DefD := ⟨("_law_solved", none), "_law_solved", "_law_solved", defArgs s__law_solved, defBody s__law_solved, defScope s__law_solved, [], []⟩
def dd__law_placed : He.DefD := ⟨("_law_placed", none), "_law_placed", "_law_placed", defArgs s__law_placed, defBody s__law_placed, defScope s__law_placed, [], []⟩
def dd__law_odd : He.DefD := ⟨("_law_odd", none), "_law_odd", "_law_odd", defArgs s__law_odd, defBody s__law_odd, defScope s__law_odd, [], []⟩
def dd_room_way : He.DefD := ⟨("room_way", none), "room_way", "room_way", defArgs s_room_way, defBody s_room_way, defScope s_room_way, [], []⟩
def dd_standing_in : He.DefD := ⟨("standing_in", none), "standing_in", "standing_in", defArgs s_standing_in, defBody s_standing_in, defScope s_standing_in, [], []⟩
def dd_first_broken : He.DefD := ⟨("first_broken", none), "first_broken", "first_broken", defArgs s_first_broken, defBody s_first_broken, defScope s_first_broken, [], []⟩
def dd_is_pair : He.DefD := ⟨("is_pair", none), "is_pair", "is_pair", defArgs s_is_pair, defBody s_is_pair, defScope s_is_pair, [], []⟩
def dd_is_whole : He.DefD := ⟨("is_whole", none), "is_whole", "is_whole", defArgs s_is_whole, defBody s_is_whole, defScope s_is_whole, [], []⟩
def dd_is_rooms : He.DefD := ⟨("is_rooms", none), "is_rooms", "is_rooms", defArgs s_is_rooms, defBody s_is_rooms, defScope s_is_rooms, [], []⟩
def dd_all_standings : He.DefD := ⟨("all_standings", none), "all_standings", "all_standings", defArgs s_all_standings, defBody s_all_standings, defScope s_all_standings, [], []⟩
def dd_is_standing : He.DefD := ⟨("is_standing", none), "is_standing", "is_standing", defArgs s_is_standing, defBody s_is_standing, defScope s_is_standing, [], []⟩
def dd_is_lets : He.DefD := ⟨("is_lets", none), "is_lets", "is_lets", defArgs s_is_lets, defBody s_is_lets, defScope s_is_lets, [], []⟩
def dd_is_thing : He.DefD := ⟨("is_thing", none), "is_thing", "is_thing", defArgs s_is_thing, defBody s_is_thing, defScope s_is_thing, [], []⟩
def dd_says_right : He.DefD := ⟨("says_right", none), "says_right", "says_right", defArgs s_says_right, defBody s_says_right, defScope s_says_right, [], []⟩
def dd_first_wrong : He.DefD := ⟨("first_wrong", none), "first_wrong", "first_wrong", defArgs s_first_wrong, defBody s_first_wrong, defScope s_first_wrong, [], []⟩
def dd_is_book : He.DefD := ⟨("is_book", none), "is_book", "is_book", defArgs s_is_book, defBody s_is_book, defScope s_is_book, [], []⟩
def dd_is_place : He.DefD := ⟨("is_place", none), "is_place", "is_place", defArgs s_is_place, defBody s_is_place, defScope s_is_place, [], []⟩
def dd_first_bad : He.DefD := ⟨("first_bad", none), "first_bad", "first_bad", defArgs s_first_bad, defBody s_first_bad, defScope s_first_bad, [], []⟩
def dd_lies_in_itself : He.DefD := ⟨("lies_in_itself", none), "lies_in_itself", "lies_in_itself", defArgs s_lies_in_itself, defBody s_lies_in_itself, defScope s_lies_in_itself, [], []⟩
def dd_first_ring : He.DefD := ⟨("first_ring", none), "first_ring", "first_ring", defArgs s_first_ring, defBody s_first_ring, defScope s_first_ring, [], []⟩
def dd_is_forest : He.DefD := ⟨("is_forest", none), "is_forest", "is_forest", defArgs s_is_forest, defBody s_is_forest, defScope s_is_forest, [], []⟩
def dd_keeps : He.DefD := ⟨("keeps", none), "keeps", "keeps", defArgs s_keeps, defBody s_keeps, defScope s_keeps, [], []⟩
def dd__law_turned : He.DefD := ⟨("_law_turned", none), "_law_turned", "_law_turned", defArgs s__law_turned, defBody s__law_turned, defScope s__law_turned, [], []⟩
def dd__law_table : He.DefD := ⟨("_law_table", none), "_law_table", "_law_table", defArgs s__law_table, defBody s__law_table, defScope s__law_table, [], []⟩
def dd__law_moved : He.DefD := ⟨("_law_moved", none), "_law_moved", "_law_moved", defArgs s__law_moved, defBody s__law_moved, defScope s__law_moved, [], []⟩
def dd__law_number : He.DefD := ⟨("_law_number", none), "_law_number", "_law_number", defArgs s__law_number, defBody s__law_number, defScope s__law_number, [], []⟩
def dd__law_is_forest : He.DefD := ⟨("_law_is_forest", none), "_law_is_forest", "_law_is_forest", defArgs s__law_is_forest, defBody s__law_is_forest, defScope s__law_is_forest, [], []⟩
def dd__law_kept : He.DefD := ⟨("_law_kept", none), "_law_kept", "_law_kept", defArgs s__law_kept, defBody s__law_kept, defScope s__law_kept, [], []⟩
def dd__law_no_book : He.DefD := ⟨("_law_no_book", none), "_law_no_book", "_law_no_book", defArgs s__law_no_book, defBody s__law_no_book, defScope s__law_no_book, [], []⟩
def dd_law : He.DefD := ⟨("law", none), "law", "law", defArgs s_law, defBody s_law, defScope s_law, [], []⟩
def fn : List He.DefD := [dd__law_pool, dd__law_take, dd__law_one, dd__law_rooms, dd__law_two, dd__law_every, dd__law_loose, dd__law_mixed, dd__law_grown, dd__law_climb, dd__law_standing, dd__law_saying, dd__law_sayings, dd__law_world, dd__law_parts, dd__law_less, dd__law_over, dd__law_free, dd__law_solved, dd__law_placed, dd__law_odd, dd_room_way, dd_standing_in, dd_first_broken, dd_is_pair, dd_is_whole, dd_is_rooms, dd_all_standings, dd_is_standing, dd_is_lets, dd_is_thing, dd_says_right, dd_first_wrong, dd_is_book, dd_is_place, dd_first_bad, dd_lies_in_itself, dd_first_ring, dd_is_forest, dd_keeps, dd__law_turned, dd__law_table, dd__law_moved, dd__law_number, dd__law_is_forest, dd__law_kept, dd__law_no_book, dd_law]
def fa : List He.Fa := [.free "len", .free "int", .free "str", .free "tuple", .free "list", .free "max", .free "isinstance", .free "sorted", .free "range", .free "enumerate", .free "bool", .int "MOST_THINGS" 24, .int "MOST_ROOMS" 4, .int "MOST_SAYINGS" 400, .glo "APART", .glo "_law_pool", .glo "_law_take", .glo "_law_one", .glo "_law_rooms", .glo "_law_two", .glo "_law_every", .glo "_law_loose", .glo "_law_mixed", .glo "_law_grown", .glo "_law_climb", .glo "_law_standing", .glo "_law_saying", .glo "_law_sayings", .glo "_law_world", .glo "_law_parts", .glo "_law_less", .glo "_law_over", .glo "_law_free", .glo "_law_solved", .glo "_law_placed", .glo "_law_odd", .glo "room_way", .glo "standing_in", .glo "first_broken", .glo "is_pair", .glo "is_whole", .glo "is_rooms", .glo "all_standings", .glo "is_standing", .glo "is_lets", .glo "is_thing", .glo "says_right", .glo "first_wrong", .glo "is_book", .glo "is_place", .glo "first_bad", .glo "lies_in_itself", .glo "first_ring", .glo "is_forest", .glo "keeps", .glo "_law_turned", .glo "_law_table", .glo "_law_moved", .glo "_law_number", .glo "_law_is_forest", .glo "_law_kept", .glo "_law_no_book", .glo "law"]
def ex (K : PySem.W.Frag) : Bool := He.tupB K "APART" [.str ("apart" : Str), .int 0]
abbrev R : PySem.W.OpenRow := PySem.W.OpenLaw.row PySem.Challenge.rw_nestsay_k12_forms_bent_and_judged
abbrev hk : PySem.W.Hook := He.hookX 4 fa fn [] [] ex
def ob (s : PySem.W.SharedT) : He.AlX := He.obsX 4 fa fn [] [] ex (HandSHeadRun.getT s)
theorem ob_eq (s : PySem.W.SharedT) : ob s = hk.obs s.abs := He.obsX_eq (HandSHeadRun.getT_eq s)
def loose : List Str := [("MOST_THINGS" : Str), ("MOST_ROOMS" : Str), ("is_whole" : Str), ("is_rooms" : Str), ("is_thing" : Str), ("is_place" : Str), ("lies_in_itself" : Str), ("first_bad" : Str), ("first_ring" : Str), ("is_forest" : Str), ("room_way" : Str), ("APART" : Str), ("all_standings" : Str), ("is_standing" : Str), ("standing_in" : Str), ("is_lets" : Str), ("says_right" : Str), ("MOST_SAYINGS" : Str), ("is_pair" : Str), ("first_wrong" : Str), ("is_book" : Str), ("first_broken" : Str), ("keeps" : Str), ("_law_pool" : Str), ("_law_take" : Str), ("_law_one" : Str), ("_law_mixed" : Str), ("_law_climb" : Str), ("_law_standing" : Str), ("_law_turned" : Str), ("_law_every" : Str), ("_law_table" : Str), ("_law_kept" : Str), ("_law_parts" : Str), ("_law_less" : Str), ("_law_over" : Str), ("_law_free" : Str), ("_law_solved" : Str), ("_law_number" : Str), ("_law_is_forest" : Str), ("_law_rooms" : Str), ("_law_grown" : Str), ("_law_saying" : Str), ("_law_sayings" : Str), ("_law_two" : Str), ("_law_loose" : Str), ("_law_world" : Str), ("_law_placed" : Str), ("_law_moved" : Str), ("_law_odd" : Str), ("_law_no_book" : Str)]
theorem run (w : World) : HandSHeadRun.RunEq R (PySem.W.view R.prog [57]) hk ob 6200 loose w := by
  intro os
  kernel_rfl
theorem fx {w : World} {K : PySem.W.Frag} {h : Heap} {mg : Str → Option Value} (X : K.In h) (G : h.Ns mainGlobals mg) (c : He.SaysX fa fn [] [] ex w h K) : Fx K mg where
  n_len := He.free_ok X G (c.t.d.fact 0 (f := .free "len") rfl)
  n_int := He.free_ok X G (c.t.d.fact 1 (f := .free "int") rfl)
  n_str := He.free_ok X G (c.t.d.fact 2 (f := .free "str") rfl)
  n_tuple := He.free_ok X G (c.t.d.fact 3 (f := .free "tuple") rfl)
  n_list := He.free_ok X G (c.t.d.fact 4 (f := .free "list") rfl)
  n_max := He.free_ok X G (c.t.d.fact 5 (f := .free "max") rfl)
  n_isinstance := He.free_ok X G (c.t.d.fact 6 (f := .free "isinstance") rfl)
  n_sorted := He.free_ok X G (c.t.d.fact 7 (f := .free "sorted") rfl)
  n_range := He.free_ok X G (c.t.d.fact 8 (f := .free "range") rfl)
  n_enumerate := He.free_ok X G (c.t.d.fact 9 (f := .free "enumerate") rfl)
  n_bool := He.free_ok X G (c.t.d.fact 10 (f := .free "bool") rfl)
  c_MOST_THINGS := He.int_ok X G (c.t.d.fact 11 (f := .int "MOST_THINGS" 24) rfl)
  c_MOST_ROOMS := He.int_ok X G (c.t.d.fact 12 (f := .int "MOST_ROOMS" 4) rfl)
  c_MOST_SAYINGS := He.int_ok X G (c.t.d.fact 13 (f := .int "MOST_SAYINGS" 400) rfl)
  t_APART := ⟨_, He.glo_ok X G (c.t.d.fact 14 (f := .glo "APART") rfl), fun T ρ H => rl_wtup (l := [(.str ("apart" : Str)), (.int 0)]) rfl (He.tupB_ok (x := "APART") (vs := [.str ("apart" : Str), .int 0]) c.more fun _ => none) (.cons (.str _) (.cons (.int _) .nil))⟩
  d__law_pool := by
    obtain ⟨fd, D⟩ := c.t.d.def_ 0 (d := dd__law_pool) rfl
    exact ⟨_, fd, D, He.glo_ok X G (c.t.d.fact 15 (f := .glo "_law_pool") rfl)⟩
  d__law_take := by
    obtain ⟨fd, D⟩ := c.t.d.def_ 1 (d := dd__law_take) rfl
    exact ⟨_, fd, D, He.glo_ok X G (c.t.d.fact 16 (f := .glo "_law_take") rfl)⟩
  d__law_one := by
    obtain ⟨fd, D⟩ := c.t.d.def_ 2 (d := dd__law_one) rfl
    exact ⟨_, fd, D, He.glo_ok X G (c.t.d.fact 17 (f := .glo "_law_one") rfl)⟩
  d__law_rooms := by
    obtain ⟨fd, D⟩ := c.t.d.def_ 3 (d := dd__law_rooms) rfl
    exact ⟨_, fd, D, He.glo_ok X G (c.t.d.fact 18 (f := .glo "_law_rooms") rfl)⟩
  d__law_two := by
    obtain ⟨fd, D⟩ := c.t.d.def_ 4 (d := dd__law_two) rfl
    exact ⟨_, fd, D, He.glo_ok X G (c.t.d.fact 19 (f := .glo "_law_two") rfl)⟩
  d__law_every := by
    obtain ⟨fd, D⟩ := c.t.d.def_ 5 (d := dd__law_every) rfl
    exact ⟨_, fd, D, He.glo_ok X G (c.t.d.fact 20 (f := .glo "_law_every") rfl)⟩
  d__law_loose := by
    obtain ⟨fd, D⟩ := c.t.d.def_ 6 (d := dd__law_loose) rfl
    exact ⟨_, fd, D, He.glo_ok X G (c.t.d.fact 21 (f := .glo "_law_loose") rfl)⟩
  d__law_mixed := by
    obtain ⟨fd, D⟩ := c.t.d.def_ 7 (d := dd__law_mixed) rfl
    exact ⟨_, fd, D, He.glo_ok X G (c.t.d.fact 22 (f := .glo "_law_mixed") rfl)⟩
  d__law_grown := by
    obtain ⟨fd, D⟩ := c.t.d.def_ 8 (d := dd__law_grown) rfl
    exact ⟨_, fd, D, He.glo_ok X G (c.t.d.fact 23 (f := .glo "_law_grown") rfl)⟩
  d__law_climb := by
    obtain ⟨fd, D⟩ := c.t.d.def_ 9 (d := dd__law_climb) rfl
    exact ⟨_, fd, D, He.glo_ok X G (c.t.d.fact 24 (f := .glo "_law_climb") rfl)⟩
  d__law_standing := by
    obtain ⟨fd, D⟩ := c.t.d.def_ 10 (d := dd__law_standing) rfl
    exact ⟨_, fd, D, He.glo_ok X G (c.t.d.fact 25 (f := .glo "_law_standing") rfl)⟩
  d__law_saying := by
    obtain ⟨fd, D⟩ := c.t.d.def_ 11 (d := dd__law_saying) rfl
    exact ⟨_, fd, D, He.glo_ok X G (c.t.d.fact 26 (f := .glo "_law_saying") rfl)⟩
  d__law_sayings := by
    obtain ⟨fd, D⟩ := c.t.d.def_ 12 (d := dd__law_sayings) rfl
    exact ⟨_, fd, D, He.glo_ok X G (c.t.d.fact 27 (f := .glo "_law_sayings") rfl)⟩
  d__law_world := by
    obtain ⟨fd, D⟩ := c.t.d.def_ 13 (d := dd__law_world) rfl
    exact ⟨_, fd, D, He.glo_ok X G (c.t.d.fact 28 (f := .glo "_law_world") rfl)⟩
  d__law_parts := by
    obtain ⟨fd, D⟩ := c.t.d.def_ 14 (d := dd__law_parts) rfl
    exact ⟨_, fd, D, He.glo_ok X G (c.t.d.fact 29 (f := .glo "_law_parts") rfl)⟩
  d__law_less := by
    obtain ⟨fd, D⟩ := c.t.d.def_ 15 (d := dd__law_less) rfl
    exact ⟨_, fd, D, He.glo_ok X G (c.t.d.fact 30 (f := .glo "_law_less") rfl)⟩
  d__law_over := by
    obtain ⟨fd, D⟩ := c.t.d.def_ 16 (d := dd__law_over) rfl
    exact ⟨_, fd, D, He.glo_ok X G (c.t.d.fact 31 (f := .glo "_law_over") rfl)⟩
  d__law_free := by
    obtain ⟨fd, D⟩ := c.t.d.def_ 17 (d := dd__law_free) rfl
    exact ⟨_, fd, D, He.glo_ok X G (c.t.d.fact 32 (f := .glo "_law_free") rfl)⟩
  d__law_solved := by
    obtain ⟨fd, D⟩ := c.t.d.def_ 18 (d := dd__law_solved) rfl
    exact ⟨_, fd, D, He.glo_ok X G (c.t.d.fact 33 (f := .glo "_law_solved") rfl)⟩
  d__law_placed := by
    obtain ⟨fd, D⟩ := c.t.d.def_ 19 (d := dd__law_placed) rfl
    exact ⟨_, fd, D, He.glo_ok X G (c.t.d.fact 34 (f := .glo "_law_placed") rfl)⟩
  d__law_odd := by
    obtain ⟨fd, D⟩ := c.t.d.def_ 20 (d := dd__law_odd) rfl
    exact ⟨_, fd, D, He.glo_ok X G (c.t.d.fact 35 (f := .glo "_law_odd") rfl)⟩
  d_room_way := by
    obtain ⟨fd, D⟩ := c.t.d.def_ 21 (d := dd_room_way) rfl
    exact ⟨_, fd, D, He.glo_ok X G (c.t.d.fact 36 (f := .glo "room_way") rfl)⟩
  d_standing_in := by
    obtain ⟨fd, D⟩ := c.t.d.def_ 22 (d := dd_standing_in) rfl
    exact ⟨_, fd, D, He.glo_ok X G (c.t.d.fact 37 (f := .glo "standing_in") rfl)⟩
  d_first_broken := by
    obtain ⟨fd, D⟩ := c.t.d.def_ 23 (d := dd_first_broken) rfl
    exact ⟨_, fd, D, He.glo_ok X G (c.t.d.fact 38 (f := .glo "first_broken") rfl)⟩
  d_is_pair := by
    obtain ⟨fd, D⟩ := c.t.d.def_ 24 (d := dd_is_pair) rfl
    exact ⟨_, fd, D, He.glo_ok X G (c.t.d.fact 39 (f := .glo "is_pair") rfl)⟩
  d_is_whole := by
    obtain ⟨fd, D⟩ := c.t.d.def_ 25 (d := dd_is_whole) rfl
    exact ⟨_, fd, D, He.glo_ok X G (c.t.d.fact 40 (f := .glo "is_whole") rfl)⟩
  d_is_rooms := by
    obtain ⟨fd, D⟩ := c.t.d.def_ 26 (d := dd_is_rooms) rfl
    exact ⟨_, fd, D, He.glo_ok X G (c.t.d.fact 41 (f := .glo "is_rooms") rfl)⟩
  d_all_standings := by
    obtain ⟨fd, D⟩ := c.t.d.def_ 27 (d := dd_all_standings) rfl
    exact ⟨_, fd, D, He.glo_ok X G (c.t.d.fact 42 (f := .glo "all_standings") rfl)⟩
  d_is_standing := by
    obtain ⟨fd, D⟩ := c.t.d.def_ 28 (d := dd_is_standing) rfl
    exact ⟨_, fd, D, He.glo_ok X G (c.t.d.fact 43 (f := .glo "is_standing") rfl)⟩
  d_is_lets := by
    obtain ⟨fd, D⟩ := c.t.d.def_ 29 (d := dd_is_lets) rfl
    exact ⟨_, fd, D, He.glo_ok X G (c.t.d.fact 44 (f := .glo "is_lets") rfl)⟩
  d_is_thing := by
    obtain ⟨fd, D⟩ := c.t.d.def_ 30 (d := dd_is_thing) rfl
    exact ⟨_, fd, D, He.glo_ok X G (c.t.d.fact 45 (f := .glo "is_thing") rfl)⟩
  d_says_right := by
    obtain ⟨fd, D⟩ := c.t.d.def_ 31 (d := dd_says_right) rfl
    exact ⟨_, fd, D, He.glo_ok X G (c.t.d.fact 46 (f := .glo "says_right") rfl)⟩
  d_first_wrong := by
    obtain ⟨fd, D⟩ := c.t.d.def_ 32 (d := dd_first_wrong) rfl
    exact ⟨_, fd, D, He.glo_ok X G (c.t.d.fact 47 (f := .glo "first_wrong") rfl)⟩
  d_is_book := by
    obtain ⟨fd, D⟩ := c.t.d.def_ 33 (d := dd_is_book) rfl
    exact ⟨_, fd, D, He.glo_ok X G (c.t.d.fact 48 (f := .glo "is_book") rfl)⟩
  d_is_place := by
    obtain ⟨fd, D⟩ := c.t.d.def_ 34 (d := dd_is_place) rfl
    exact ⟨_, fd, D, He.glo_ok X G (c.t.d.fact 49 (f := .glo "is_place") rfl)⟩
  d_first_bad := by
    obtain ⟨fd, D⟩ := c.t.d.def_ 35 (d := dd_first_bad) rfl
    exact ⟨_, fd, D, He.glo_ok X G (c.t.d.fact 50 (f := .glo "first_bad") rfl)⟩
  d_lies_in_itself := by
    obtain ⟨fd, D⟩ := c.t.d.def_ 36 (d := dd_lies_in_itself) rfl
    exact ⟨_, fd, D, He.glo_ok X G (c.t.d.fact 51 (f := .glo "lies_in_itself") rfl)⟩
  d_first_ring := by
    obtain ⟨fd, D⟩ := c.t.d.def_ 37 (d := dd_first_ring) rfl
    exact ⟨_, fd, D, He.glo_ok X G (c.t.d.fact 52 (f := .glo "first_ring") rfl)⟩
  d_is_forest := by
    obtain ⟨fd, D⟩ := c.t.d.def_ 38 (d := dd_is_forest) rfl
    exact ⟨_, fd, D, He.glo_ok X G (c.t.d.fact 53 (f := .glo "is_forest") rfl)⟩
  d_keeps := by
    obtain ⟨fd, D⟩ := c.t.d.def_ 39 (d := dd_keeps) rfl
    exact ⟨_, fd, D, He.glo_ok X G (c.t.d.fact 54 (f := .glo "keeps") rfl)⟩
  d__law_turned := by
    obtain ⟨fd, D⟩ := c.t.d.def_ 40 (d := dd__law_turned) rfl
    exact ⟨_, fd, D, He.glo_ok X G (c.t.d.fact 55 (f := .glo "_law_turned") rfl)⟩
  d__law_table := by
    obtain ⟨fd, D⟩ := c.t.d.def_ 41 (d := dd__law_table) rfl
    exact ⟨_, fd, D, He.glo_ok X G (c.t.d.fact 56 (f := .glo "_law_table") rfl)⟩
  d__law_moved := by
    obtain ⟨fd, D⟩ := c.t.d.def_ 42 (d := dd__law_moved) rfl
    exact ⟨_, fd, D, He.glo_ok X G (c.t.d.fact 57 (f := .glo "_law_moved") rfl)⟩
  d__law_number := by
    obtain ⟨fd, D⟩ := c.t.d.def_ 43 (d := dd__law_number) rfl
    exact ⟨_, fd, D, He.glo_ok X G (c.t.d.fact 58 (f := .glo "_law_number") rfl)⟩
  d__law_is_forest := by
    obtain ⟨fd, D⟩ := c.t.d.def_ 44 (d := dd__law_is_forest) rfl
    exact ⟨_, fd, D, He.glo_ok X G (c.t.d.fact 59 (f := .glo "_law_is_forest") rfl)⟩
  d__law_kept := by
    obtain ⟨fd, D⟩ := c.t.d.def_ 45 (d := dd__law_kept) rfl
    exact ⟨_, fd, D, He.glo_ok X G (c.t.d.fact 60 (f := .glo "_law_kept") rfl)⟩
  d__law_no_book := by
    obtain ⟨fd, D⟩ := c.t.d.def_ 46 (d := dd__law_no_book) rfl
    exact ⟨_, fd, D, He.glo_ok X G (c.t.d.fact 61 (f := .glo "_law_no_book") rfl)⟩
  d_law := by
    obtain ⟨fd, D⟩ := c.t.d.def_ 47 (d := dd_law) rfl
    exact ⟨_, fd, D, He.glo_ok X G (c.t.d.fact 62 (f := .glo "law") rfl)⟩
theorem lawF {P : Program} {w : World} {K : PySem.W.Frag} {h : Heap} {mg : Str → Option Value} (X : K.In h) (G : h.Ns mainGlobals mg) (c : He.SaysX fa fn [] [] ex w h K) :
    ∃ (K : PySem.W.Frag) (fa : Addr) (fd : FuncData), K.In h ∧ mg (HandSHeadRun.topDef (PySem.W.OpenLaw.row PySem.Challenge.rw_nestsay_k12_forms_bent_and_judged).prog 57).name = some (.ref fa) ∧ (∀ (s : Shared) (us : List Value), us.length = 1 → BindsTo s fd ⟨us, []⟩ (([("_law_script" : Str)]).zip us)) ∧
      ∀ base : Heap, FnD P w K mg base 8 fa fd ["_law_script"] d_law := by
  have F := fx X G c
  obtain ⟨f, fd, D, hm⟩ := F.d_law
  have e : (HandSHeadRun.topDef (PySem.W.OpenLaw.row PySem.Challenge.rw_nestsay_k12_forms_bent_and_judged).prog 57).name = ("law" : Str) := by kernel_rfl
  exact ⟨K, f, fd, X, by rw [e]; exact hm, fun s us hl => FunD.bindsA (ps := ["_law_script"]) D (fun _ _ _ _ _ _ us hl => match us, hl with | [_], _ => rfl) s us hl, fun base => fn_law F D⟩
end K12
open PySem PySem.W PySem.Calls PyProof.Rows
theorem PySem.Challenge.cw_nestsay_k12_forms_bent_and_judged_holds : PySem.Challenge.rw_nestsay_k12_forms_bent_and_judged.Holds := by
  w_on; o_law
  refine HandSHeadRun.head_any (r := OpenLaw.row PySem.Challenge.rw_nestsay_k12_forms_bent_and_judged) (q := view (OpenLaw.row PySem.Challenge.rw_nestsay_k12_forms_bent_and_judged).prog [57]) (H := K12.hk) (ob := K12.ob) (M := 6200) (loose := K12.loose) (d := HandSHeadRun.topDef (OpenLaw.row PySem.Challenge.rw_nestsay_k12_forms_bent_and_judged).prog 57) (kwd := []) K12.ob_eq
    (by kernel_rfl) (fun s => by kernel_rfl) K12.run (by kernel_rfl) (by kernel_rfl) (by kernel_rfl) (by rfl) (by first | assumption | decide +kernel) (by decide +kernel) ⟨rfl, rfl, rfl, rfl, rfl, by decide +kernel⟩ ?hw ?hc
  case hw => w_witness2
  case hc =>
    exact DN.law_walk (l := PySem.Challenge.rw_nestsay_k12_forms_bent_and_judged) (k := 8) (d := HandSHeadRun.topDef (OpenLaw.row PySem.Challenge.rw_nestsay_k12_forms_bent_and_judged).prog 57) (dl := K12.d_law) rfl (by kernel_rfl) ⟨rfl, by decide, by decide⟩ (fun w mg h ⟨K, KX, c⟩ hns => K12.lawF KX hns c) K12.law_true
