import PyProof.Rows.All
import HandS.ForExc
import HandS.Comp
import HandS.Dict
import HandS.Iter
import HandS.Walk
import HandS.Text
import HandS.Deep
import HandS.IsInst
import HandS.Lambda
import HandS.Flow
import HandS.TupAny
import HandS.List
import HandS.TupMul
import HandS.Wide
import HandS.Style
import HandS.Conv
import HandS.SortInts
import HandS.RaiseMore
import HandS.TupLen
import HandS.WordsDict
import HandS.More
import KE.GoesMore
import HandS.Defaults
import HandS.Words
import HandS.WordsExc
import HandS.Strs
import HandS.ExcInit
import HandS.ExcIs
import HandS.ExcOwn
import HandS.TryMany
import HandS.Nested
import KE.KExcSuper
import HandS.DictComp
import HandS.DictTup
import HandS.Ends
import HandS.HeadEnd
import HandS.EndBits
import HandS.HeadHook4
import KE.KExcIs
import HandS.EndTab
import HandS.HeadHook1
import HandS.SortOrd
import HandS.SortRule
import PySem.Challenge.RW_nestsay_k05_lots_that_hang_together_by_l
import KE.KStateDown
import HandS.Head0
import HandS.Head1
import HandS.Head2
import HandS.HeadHook2
import HandS.HeadHook3
set_option Elab.async false
set_option linter.all false
set_option maxRecDepth 100000
set_option maxHeartbeats 2000000
/-! DnCore: a functional reading of a body: pure values, a store of what may change, and how they stand in the layer's heap. -/
namespace DN
open PySem PySem.Spec PyProof.Rows L2
abbrev St := L2.St
/-- a tuple of the written part -/
def KT (K : PySem.W.Frag) (a : Addr) (xs : List V) : Prop :=
  ∃ (o : Obj) (its : Array Value) (n : Nat), K.lookup a = some o ∧ o.cls = .type "tuple" ∧ o.data = .seq its n ∧ its.size ≤ sizeLine ∧ Vals xs its.toList
/-- the tables of code objects; the lists that are being made (nobody has them yet) -/
structure TR where
  tabs : List (Addr × Str)
  res : List Addr
  /-- the exception that is being handled: where it lies, its class, where what it bears lies -/
  err : Option (Addr × Str × Addr) := none
/-- it is no object of the store, no list in the making -/
def Out (T : TR) (ρ : List Addr) (a : Addr) : Prop := a ∉ ρ ∧ a ∉ T.res
def LV (T : TR) (ρ : List Addr) (H : Hp) (a : Addr) (xs : List V) : Prop := Rd H a (.lst xs) ∧ Out T ρ a
/-- a tuple, as it is or with its object -/
def TU : HO → Prop
  | .tup _ => True
  | .frz _ (.tup _) => True
  | _ => False
structure PlT (o : Obj) : Prop where
  cls : o.cls = .type "tuple"
  dict : o.dict = none
def mkT (b : Bool) (o : Obj) (xs : List V) : HO := match b with
  | true => .frz o (.tup xs)
  | false => .tup xs
theorem mkT_tu (b : Bool) (o : Obj) (xs : List V) : TU (mkT b o xs) := by cases b <;> trivial
/-- a tuple: a written one, or one that the heap tells (f: with its object) -/
def TV (K : PySem.W.Frag) (H : Hp) (w f : Bool) (a : Addr) (xs : List V) : Prop := (∃ o, PlT o ∧ H a = some (mkT f o xs)) ∨ (w = true ∧ KT K a xs)

/-! ### values, store, results -/
/-- a pure value; lst, dK, dT: a list, a dict (keys ints and texts; tuples of these) that nobody changes any more; ref: the n-th object of the store; con: what the module's name holds -/
inductive PV where
  | non | bl (b : Bool) | int (i : Int) | str (x : Str)
  | tup (l : List PV) | lst (l : List PV) | dK (ks : List Key) (vs : List PV) | dT (ks : List (List Key)) (vs : List PV)
  | ref (n : Nat) | con (x : Str) | ty (n : String)
  /-- the law's script -/
  | scr (l : List PV)
  /-- the exception that is being handled: its class, what it bears -/
  | err (c : Str) (w : PV)
/-- an object that may change -/
inductive SO where
  | lst (l : List PV) | dK (es : List (Key × PV)) | dT (es : List (List Key × PV)) | ins (C : Str) (fs : List (Str × PV))
abbrev Store := List SO
inductive Res (α : Type) where
  | ok (a : α) (st : Store)
  | exc (c : Str) (w : PV) (st : Store)
  | fail
abbrev M (α : Type) := Store → Res α
def Res.bind {α β : Type} (r : Res α) (k : α → Store → Res β) : Res β := match r with
  | .ok a st => k a st
  | .exc c w st => .exc c w st
  | .fail => .fail
abbrev AE := List (Option PV)

/-- the tuples that may be written ones -/
def isW : List PV → Bool
  | [.str x, .int 0] => decide (x = ("apart" : Str))
  | [.str x, .str y] => decide (x = ("yes" : Str)) && decide (y = ("no" : Str))
  | .str _ :: .str _ :: .str _ :: _ => true
  | _ => false
/-- the tuples of which the object is known -/
def isF : List PV → Bool
  | .tup [.str x, .int 0] :: _ => decide (x = ("apart" : Str))
  | _ => false
structure DG where
  K : PySem.W.Frag
  mg : Str → Option Value
  T : TR
abbrev gOf (X : Cx) (T : TR) : DG := ⟨X.K, X.mg, T⟩
def kpv : Key → PV
  | .inl i => .int i
  | .inr x => .str x

/-! ### a pure value in the heap -/
mutual
inductive Rl (G : DG) (ρ : List Addr) (H : Hp) : PV → V → Prop where
  | non : Rl G ρ H .non .non
  | bl (b : Bool) : Rl G ρ H (.bl b) (.bl b)
  | int (i : Int) : Rl G ρ H (.int i) (.int i)
  | str (x : Str) : Rl G ρ H (.str x) (.str x)
  | ty (n : String) : Rl G ρ H (.ty n) (.ty n)
  | tup {a : Addr} {l : List PV} {xs : List V} : TV G.K H (isW l) (isF l) a xs → RlAll G ρ H l xs → Rl G ρ H (.tup l) (.ref a)
  | lst {a : Addr} {l : List PV} {xs : List V} : LV G.T ρ H a xs → RlAll G ρ H l xs → Rl G ρ H (.lst l) (.ref a)
  | dK {a : Addr} {ks : List Key} {vs : List PV} {kvs : List (Key × V)} : Rd H a (.dK kvs) → Out G.T ρ a → ks = kvs.map (·.1) → RlAll G ρ H vs (kvs.map (·.2)) → Rl G ρ H (.dK ks vs) (.ref a)
  | dT {a : Addr} {ks : List (List Key)} {vs : List PV} {kvs : List (List Key × V)} : Rd H a (.dT kvs) → Out G.T ρ a → ks = kvs.map (·.1) → RlAll G ρ H vs (kvs.map (·.2)) → Rl G ρ H (.dT ks vs) (.ref a)
  | ref {n : Nat} {a : Addr} : ρ[n]? = some a → Rl G ρ H (.ref n) (.ref a)
  | con {x : Str} {a : Addr} : G.mg x = some (.ref a) → Rl G ρ H (.con x) (.ref a)
  | scr {a : Addr} {l : List PV} {xs : List V} : (LV G.T ρ H a xs ∨ ∀ H, SqL G.K H a xs) → RlAll G ρ H l xs → Rl G ρ H (.scr l) (.ref a)
  | err {a d : Addr} {c : Str} {w : PV} {v : V} : G.T.err = some (a, c, d) → Rd H d (.xd [(("what" : Str), v)]) → Out G.T ρ d → Rl G ρ H w v → Rl G ρ H (.err c w) (.ref a)
inductive RlAll (G : DG) (ρ : List Addr) (H : Hp) : List PV → List V → Prop where
  | nil : RlAll G ρ H [] []
  | cons {p : PV} {v : V} {ps : List PV} {vs : List V} : Rl G ρ H p v → RlAll G ρ H ps vs → RlAll G ρ H (p :: ps) (v :: vs)
end

/-- what an object of the store is in the heap -/
inductive RlO (G : DG) (ρ : List Addr) (H : Hp) : SO → Addr → Prop where
  | lst {a : Addr} {l : List PV} {xs : List V} : H a = some (.lst xs) → RlAll G ρ H l xs → RlO G ρ H (.lst l) a
  | dK {a : Addr} {es : List (Key × PV)} {kvs : List (Key × V)} : H a = some (.dK kvs) → es.map (·.1) = kvs.map (·.1) → RlAll G ρ H (es.map (·.2)) (kvs.map (·.2)) → RlO G ρ H (.dK es) a
  | dT {a : Addr} {es : List (List Key × PV)} {kvs : List (List Key × V)} : H a = some (.dT kvs) → es.map (·.1) = kvs.map (·.1) → RlAll G ρ H (es.map (·.2)) (kvs.map (·.2)) → RlO G ρ H (.dT es) a
  | ins {a : Addr} {C : Str} {ca dx : Addr} {fs : List (Str × PV)} {gs : List (Str × V)} : G.mg C = some (.ref ca) → H a = some (.ins ca dx gs) → fs.map (·.1) = gs.map (·.1) → RlAll G ρ H (fs.map (·.2)) (gs.map (·.2)) → RlO G ρ H (.ins C fs) a

/-- nothing, or a table of code objects -/
def NT (H : Hp) (a : Addr) : Prop := H a = none ∨ ∃ ps, H a = some (.tbl ps)
structure Ext (T : TR) (ρ : List Addr) (H : Hp) (ρ' : List Addr) (H' : Hp) : Prop where
  pre : ρ <+: ρ'
  keep : ∀ a u, Rd H a u → Out T ρ a → (∀ ps, u ≠ .tbl ps) → Rd H' a u
  new : ∀ a ∈ ρ', a ∈ ρ ∨ NT H a
  free : ∀ a, NT H' a → NT H a
  tups : ∀ a u, TU u → H a = some u → H' a = some u
  rs : ∀ a ∈ T.res, ¬ NT H a → H' a = H a

structure RlE (G : DG) (ρ : List Addr) (H : Hp) (aσ : AE) (σ : St) : Prop where
  len : aσ.length = σ.length
  at_ : ∀ (i : Nat) (p : PV), aσ[i]? = some (some p) → ∃ v, σ[i]? = some (some v) ∧ Rl G ρ H p v
structure RlS (G : DG) (ρ : List Addr) (H : Hp) (st : Store) : Prop where
  len : ρ.length = st.length
  nd : ρ.Nodup
  at_ : ∀ (n : Nat) (o : SO) (a : Addr), st[n]? = some o → ρ[n]? = some a → RlO G ρ H o a
  tabs : LamX.Tabs G.T.tabs H
  res : ∀ a ∈ G.T.res, ¬ NT H a ∧ a ∉ ρ

section
variable {G : DG} {ρ ρ' ρ1 : List Addr} {H H' H1 : Hp}
theorem rd_not {H : Hp} {a : Addr} {u : HO} (r : Rd H a u) (n : H a = none) : False := by
  rcases r with r | ⟨o, r⟩ <;> rw [n] at r <;> cases r
theorem rd_nt {H : Hp} {a : Addr} {u : HO} (r : Rd H a u) (t : ∀ ps, u ≠ .tbl ps) (n : NT H a) : False := by
  rcases n with n | ⟨ps, n⟩
  · exact rd_not r n
  · rcases r with r | ⟨o, r⟩
    · rw [r] at n; exact t ps (Option.some.inj n)
    · rw [r] at n; cases n
theorem LV.sq {T : TR} {K : PySem.W.Frag} {a : Addr} {xs : List V} (h : LV T ρ H a xs) : SqL K H a xs := .inl h.1
theorem TV.sq {K : PySem.W.Frag} {w f : Bool} {a : Addr} {xs : List V} (h : TV K H w f a xs) : SqT K H a xs := h.elim (fun ⟨o, _, h⟩ => by
  cases f
  · exact .inl (.inl h)
  · exact .inl (.inr ⟨o, h⟩)) fun h => .inr h.2
theorem Ext.refl {T : TR} : Ext T ρ H ρ H := ⟨List.prefix_refl _, fun _ _ r _ _ => r, fun _ h => .inl h, fun _ h => h, fun _ _ _ h => h, fun _ _ _ => rfl⟩
theorem Ext.notin (e : Ext G.T ρ H ρ' H') {a : Addr} {u : HO} (r : Rd H a u) (n : Out G.T ρ a) (t : ∀ ps, u ≠ .tbl ps := by intro ps z; cases z) : Out G.T ρ' a := ⟨fun h => by
  rcases e.new a h with z | z
  · exact n.1 z
  · exact rd_nt r t z, n.2⟩
theorem Ext.trans (e : Ext G.T ρ H ρ1 H1) (f : Ext G.T ρ1 H1 ρ' H') : Ext G.T ρ H ρ' H' where
  pre := e.pre.trans f.pre
  keep := fun a u r n t => f.keep a u (e.keep a u r n t) (e.notin r n t) t
  new := fun a h => by
    rcases f.new a h with z | z
    · exact e.new a z
    · exact .inr (e.free a z)
  free := fun a h => e.free a (f.free a h)
  tups := fun a u t h => f.tups a u t (e.tups a u t h)
  rs := fun a ha hn => (f.rs a ha (by unfold NT at hn ⊢; rw [e.rs a ha hn]; exact hn)).trans (e.rs a ha hn)
theorem LV.ext (e : Ext G.T ρ H ρ' H') {a : Addr} {xs : List V} (h : LV G.T ρ H a xs) : LV G.T ρ' H' a xs := ⟨e.keep a _ h.1 h.2 (fun _ z => by cases z), e.notin h.1 h.2⟩
theorem TV.ext {K : PySem.W.Frag} {w f : Bool} (e : Ext G.T ρ H ρ' H') {a : Addr} {xs : List V} (h : TV K H w f a xs) : TV K H' w f a xs := h.elim (fun ⟨o, p, h⟩ => .inl ⟨o, p, e.tups a _ (mkT_tu f o xs) h⟩) .inr
mutual
theorem Rl.ext (e : Ext G.T ρ H ρ' H') : ∀ {p : PV} {v : V}, Rl G ρ H p v → Rl G ρ' H' p v
  | _, _, .non => .non
  | _, _, .bl b => .bl b
  | _, _, .int i => .int i
  | _, _, .str x => .str x
  | _, _, .ty n => .ty n
  | _, _, .tup h r => .tup (h.ext e) (RlAll.ext e r)
  | _, _, .lst h r => .lst (h.ext e) (RlAll.ext e r)
  | _, _, .dK h n k r => .dK (e.keep _ _ h n (fun _ z => by cases z)) (e.notin h n) k (RlAll.ext e r)
  | _, _, .dT h n k r => .dT (e.keep _ _ h n (fun _ z => by cases z)) (e.notin h n) k (RlAll.ext e r)
  | _, _, .ref h => .ref (by
      obtain ⟨t, rfl⟩ := e.pre
      rw [List.getElem?_append_left (List.getElem?_eq_some_iff.mp h).1]
      exact h)
  | _, _, .con h => .con h
  | _, _, .scr h r => .scr (h.imp (fun h => h.ext e) id) (RlAll.ext e r)
  | _, _, .err q h n r => .err q (e.keep _ _ h n (fun _ z => by cases z)) (e.notin h n) (Rl.ext e r)
theorem RlAll.ext (e : Ext G.T ρ H ρ' H') : ∀ {ps : List PV} {vs : List V}, RlAll G ρ H ps vs → RlAll G ρ' H' ps vs
  | _, _, .nil => .nil
  | _, _, .cons r t => .cons (Rl.ext e r) (RlAll.ext e t)
end
theorem RlE.ext (e : Ext G.T ρ H ρ' H') {aσ : AE} {σ : St} (h : RlE G ρ H aσ σ) : RlE G ρ' H' aσ σ :=
  ⟨h.len, fun i p q => let ⟨v, a, b⟩ := h.at_ i p q; ⟨v, a, b.ext e⟩⟩
theorem RlO.ext {o : SO} {a : Addr} (e : Ext G.T ρ H ρ' H') (k : ∀ u, H a = some u → H' a = some u) (h : RlO G ρ H o a) : RlO G ρ' H' o a := by
  cases h with
  | lst h r => exact .lst (k _ h) (r.ext e)
  | dK h x r => exact .dK (k _ h) x (r.ext e)
  | dT h x r => exact .dT (k _ h) x (r.ext e)
  | ins c h x r => exact .ins c (k _ h) x (r.ext e)
theorem RlAll.length : ∀ {ps : List PV} {vs : List V}, RlAll G ρ H ps vs → ps.length = vs.length
  | _, _, .nil => rfl
  | _, _, .cons _ t => by simp [RlAll.length t]
theorem RlAll.get : ∀ {ps : List PV} {vs : List V} {i : Nat} {p : PV}, RlAll G ρ H ps vs → ps[i]? = some p → ∃ v, vs[i]? = some v ∧ Rl G ρ H p v
  | _, _, _, _, .nil, e => by simp at e
  | _, _, 0, _, .cons r _, e => by simp at e; subst e; exact ⟨_, rfl, r⟩
  | _, _, i + 1, p, .cons _ t, e => by
    obtain ⟨u, h1, h2⟩ := RlAll.get (i := i) (p := p) t (by simpa using e)
    exact ⟨u, by simpa using h1, h2⟩
theorem RlAll.append : ∀ {ps qs : List PV} {vs ws : List V}, RlAll G ρ H ps vs → RlAll G ρ H qs ws → RlAll G ρ H (ps ++ qs) (vs ++ ws)
  | _, _, _, _, .nil, s => s
  | _, _, _, _, .cons r t, s => .cons r (RlAll.append t s)
theorem RlAll.set {p : PV} {v : V} (r : Rl G ρ H p v) : ∀ {ps : List PV} {vs : List V} (i : Nat), RlAll G ρ H ps vs → RlAll G ρ H (ps.set i p) (vs.set i v)
  | _, _, _, .nil => .nil
  | _, _, 0, .cons _ t => .cons r t
  | _, _, i + 1, .cons q t => .cons q (RlAll.set r i t)
theorem RlAll.take : ∀ {ps : List PV} {vs : List V} (n : Nat), RlAll G ρ H ps vs → RlAll G ρ H (ps.take n) (vs.take n)
  | _, _, 0, _ => .nil
  | _, _, _ + 1, .nil => .nil
  | _, _, n + 1, .cons r t => .cons r (RlAll.take n t)
theorem RlAll.drop : ∀ {ps : List PV} {vs : List V} (n : Nat), RlAll G ρ H ps vs → RlAll G ρ H (ps.drop n) (vs.drop n)
  | _, _, 0, r => r
  | _, _, _ + 1, .nil => .nil
  | _, _, n + 1, .cons _ t => RlAll.drop n t
theorem RlAll.eraseIdx : ∀ {ps : List PV} {vs : List V} (n : Nat), RlAll G ρ H ps vs → RlAll G ρ H (ps.eraseIdx n) (vs.eraseIdx n)
  | _, _, _, .nil => .nil
  | _, _, 0, .cons _ t => t
  | _, _, n + 1, .cons r t => .cons r (RlAll.eraseIdx n t)
end

/-! ### what is wanted behind a result -/
abbrev Xd (w : V) : HO := .xd [(("what" : Str), w)]
/-- from the state (ρ, H): K behind an answer, E behind an exception -/
def Pst (G : DG) (E : XK) (ρ : List Addr) (H : Hp) {α : Type} (K : α → Store → List Addr → Hp → Prop) : Res α → Prop
  | .ok a st => ∀ ρ' H', Ext G.T ρ H ρ' H' → RlS G ρ' H' st → K a st ρ' H'
  | .exc c w st => ∀ ρ' H' ca d v, Ext G.T ρ H ρ' H' → RlS G ρ' H' st → G.mg c = some (.ref ca) → H' d = some (Xd v) → Out G.T ρ' d → Rl G ρ' H' w v → E (.ref ca) (some d) H'
  | .fail => False
inductive Fl where
  | nx | bk | ct | rt (v : PV)
abbrev KV (G : DG) (Q : VK) : PV → Store → List Addr → Hp → Prop := fun p _ ρ H => ∀ v, Rl G ρ H p v → Q v H
abbrev KB (Q : Bool → Hp → Prop) : Bool → Store → List Addr → Hp → Prop := fun b _ _ H => Q b H
abbrev KA (G : DG) (Q : List V → Hp → Prop) : List PV → Store → List Addr → Hp → Prop := fun ps _ ρ H => ∀ vs, RlAll G ρ H ps vs → Q vs H
def KF (G : DG) (D : Ends) (ρ : List Addr) (H : Hp) (σ : St) : Fl → Prop
  | .nx => D.nx σ H
  | .bk => D.bk σ H
  | .ct => D.ct σ H
  | .rt p => ∀ v, Rl G ρ H p v → D.rt v H
abbrev KS (G : DG) (D : Ends) : Fl × AE → Store → List Addr → Hp → Prop := fun r _ ρ H => ∀ σ, RlE G ρ H r.2 σ → KF G D ρ H σ r.1
section
variable {G : DG} {E : XK} {ρ ρ1 : List Addr} {H H1 : Hp} {α β : Type}
theorem Pst.base {K : α → Store → List Addr → Hp → Prop} {r : Res α} (e : Ext G.T ρ H ρ1 H1) (h : Pst G E ρ H K r) : Pst G E ρ1 H1 K r := by
  cases r with
  | ok p st => exact fun ρ' H' x => h ρ' H' (e.trans x)
  | exc c w st => exact fun ρ' H' ca d v x => h ρ' H' ca d v (e.trans x)
  | fail => exact h
theorem Pst.imp {K K' : α → Store → List Addr → Hp → Prop} {r : Res α} (h : Pst G E ρ H K r) (i : ∀ a st ρ1 H1, Ext G.T ρ H ρ1 H1 → RlS G ρ1 H1 st → K a st ρ1 H1 → K' a st ρ1 H1) : Pst G E ρ H K' r := by
  cases r with
  | ok p st => exact fun ρ' H' x s => i _ _ _ _ x s (h ρ' H' x s)
  | exc c w st => exact h
  | fail => exact h
theorem Pst.bind {K : β → Store → List Addr → Hp → Prop} {r : Res α} {k : α → Store → Res β} (h : Pst G E ρ H K (r.bind k)) :
    Pst G E ρ H (fun a st ρ1 H1 => Ext G.T ρ H ρ1 H1 ∧ RlS G ρ1 H1 st ∧ Pst G E ρ1 H1 K (k a st)) r := by
  cases r with
  | ok p st => exact fun ρ' H' x s => ⟨x, s, h.base x⟩
  | exc c w st => exact h
  | fail => exact h
theorem Pst.ret {K : α → Store → List Addr → Hp → Prop} {a : α} {st : Store} (hS : RlS G ρ H st) (h : Pst G E ρ H K (.ok a st)) : K a st ρ H := h ρ H Ext.refl hS
end

abbrev DE := AE → M PV
abbrev DB := AE → M Bool
abbrev DA := AE → M (List PV)
abbrev DS := AE → M (Fl × AE)
def Tv (G : DG) (E : XK) (f : DE) : TE := fun σ H Q => ∃ ρ aσ st, RlE G ρ H aσ σ ∧ RlS G ρ H st ∧ Pst G E ρ H (KV G Q) (f aσ st)
def Tb (G : DG) (E : XK) (f : DB) : TT := fun σ H Q => ∃ ρ aσ st, RlE G ρ H aσ σ ∧ RlS G ρ H st ∧ Pst G E ρ H (KB Q) (f aσ st)
def Ta (G : DG) (E : XK) (f : DA) : TA := fun σ H Q => ∃ ρ aσ st, RlE G ρ H aσ σ ∧ RlS G ρ H st ∧ Pst G E ρ H (KA G Q) (f aσ st)
def Ts (G : DG) (E : XK) (f : DS) : TS := fun D σ H => ∃ ρ aσ st, RlE G ρ H aσ σ ∧ RlS G ρ H st ∧ Pst G E ρ H (KS G D) (f aσ st)

/-! ### the judgements -/
def EV (X : Cx) (T : TR) (E : XK) (e : Expr) (f : DE) : Prop := PE X e (Tv (gOf X T) E f)
def EB (X : Cx) (T : TR) (E : XK) (e : Expr) (f : DB) : Prop := PT X e (Tb (gOf X T) E f)
def EA (X : Cx) (T : TR) (E : XK) (es : List Expr) (f : DA) : Prop := PA X es (Ta (gOf X T) E f)
def ES (X : Cx) (T : TR) (E : XK) (s : Stmt) (f : DS) : Prop := PS X s (Ts (gOf X T) E f)
def ESs (X : Cx) (T : TR) (E : XK) (ss : List Stmt) (f : DS) : Prop := PSs X ss (Ts (gOf X T) E f)

section
variable {X : Cx} {T : TR} {E : XK}
theorem pe_imp {e : Expr} {t t' : TE} (h : PE X e t) (i : ∀ σ H Q, t' σ H Q → t σ H Q) : PE X e t' := ⟨fun pins s σ H Q I q => h.run pins s σ H Q I (i σ H Q q)⟩
theorem pt_imp {e : Expr} {t t' : TT} (h : PT X e t) (i : ∀ σ H Q, t' σ H Q → t σ H Q) : PT X e t' := ⟨fun pins s σ H Q I q => h.run pins s σ H Q I (i σ H Q q)⟩
theorem pw_imp {e : Expr} {t t' : TT} (h : PW X e t) (i : ∀ σ H Q, t' σ H Q → t σ H Q) : PW X e t' := ⟨fun wh pins s σ H Q I q => h.run wh pins s σ H Q I (i σ H Q q)⟩
theorem pa_imp {es : List Expr} {t t' : TA} (h : PA X es t) (i : ∀ σ H Q, t' σ H Q → t σ H Q) : PA X es t' := ⟨fun pos pins s σ H Q I q => h.run pos pins s σ H Q I (i σ H Q q)⟩
theorem ps_imp {e : Stmt} {t t' : TS} (h : PS X e t) (i : ∀ D σ H, t' D σ H → t D σ H) : PS X e t' := ⟨fun pins s σ H D I q => h.run pins s σ H D I (i D σ H q)⟩
theorem pss_imp {e : List Stmt} {t t' : TS} (h : PSs X e t) (i : ∀ D σ H, t' D σ H → t D σ H) : PSs X e t' := ⟨fun pins s σ H D I q => h.run pins s σ H D I (i D σ H q)⟩
end

/-! ### steps of the heap -/
section
variable {G : DG} {E : XK} {ρ : List Addr} {H : Hp} {st : Store} {p : Addr} {o : HO}
theorem rd_upd {a : Addr} {u : HO} (hp : H p = none) (r : Rd H a u) : Rd (upd H p o) a u := by
  have ne : a ≠ p := fun e => by subst e; exact rd_not r hp
  rcases r with r | ⟨w, r⟩
  · exact .inl (by rw [upd_ne ne]; exact r)
  · exact .inr ⟨w, by rw [upd_ne ne]; exact r⟩
theorem nt_ne {H : Hp} {a D : Addr} {o : HO} (e : a ≠ D) (z : NT (upd H D o) a) : NT H a := by unfold NT at z; rwa [upd_ne e] at z
theorem nt_at {H : Hp} {D : Addr} {o : HO} (t : ∀ ps, o ≠ .tbl ps) (z : NT (upd H D o) D) : False := by
  rcases z with z | ⟨ps, z⟩
  · rw [upd_same] at z; cases z
  · rw [upd_same] at z; exact t ps (Option.some.inj z)
theorem nt_some {H : Hp} {a : Addr} {o : HO} (h : H a = some o) (t : ∀ ps, o ≠ .tbl ps := by intro ps z; cases z) : ¬ NT H a := fun z => by
  rcases z with z | ⟨ps, z⟩ <;> rw [h] at z
  · cases z
  · exact t ps (Option.some.inj z)
theorem ext_new {T : TR} (hp : H p = none) : Ext T ρ H ρ (upd H p o) :=
  ⟨List.prefix_refl _, fun _ _ r _ _ => rd_upd hp r, fun _ h => .inl h, fun a h => by
    by_cases e : a = p
    · rw [e]; exact .inl hp
    · unfold NT at h; rwa [upd_ne e] at h, fun a u _ h => by rw [upd_ne (ne_of_none h hp)]; exact h, fun a _ hn => upd_ne fun e => hn (by rw [e]; exact .inl hp)⟩
theorem keep_new (hp : H p = none) : ∀ b u, H b = some u → upd H p o b = some u := fun b u e => by rw [upd_ne (ne_of_none e hp)]; exact e
theorem RlS.notin (hS : RlS G ρ H st) (hp : H p = none) : p ∉ ρ := fun h => by
  obtain ⟨n, hn, e⟩ := List.mem_iff_getElem.mp h
  have e1 : ρ[n]? = some p := by rw [List.getElem?_eq_getElem hn, e]
  have hn2 : n < st.length := by rw [← hS.len]; exact hn
  have r := hS.at_ n st[n] p (List.getElem?_eq_getElem hn2) e1
  generalize st[n] = so at r
  cases r with
  | lst h _ => rw [hp] at h; cases h
  | dK h _ _ => rw [hp] at h; cases h
  | dT h _ _ => rw [hp] at h; cases h
  | ins _ h _ _ => rw [hp] at h; cases h
theorem nt_new {a : Addr} (hp : H p = none) (h : ¬ NT H a) : ¬ NT (upd H p o) a := fun z => h (nt_ne (fun e => h (by rw [e]; exact .inl hp)) z)
theorem upd_some {a : Addr} (h : H a ≠ none) : upd H p o a ≠ none := by
  by_cases e : a = p
  · rw [e, upd_same]; simp
  · rwa [upd_ne e]
theorem RlS.new (hS : RlS G ρ H st) (hp : H p = none) : RlS G ρ (upd H p o) st :=
  ⟨hS.len, hS.nd, fun n u a h1 h2 => (hS.at_ n u a h1 h2).ext (ext_new hp) (keep_new hp a), hS.tabs.ext (keep_new hp), fun a ha => ⟨nt_new hp (hS.res a ha).1, (hS.res a ha).2⟩⟩
theorem RlS.out (hS : RlS G ρ H st) (hp : H p = none) : Out G.T ρ p := ⟨hS.notin hp, fun h => (hS.res p h).1 (.inl hp)⟩
theorem RlS.ref (hS : RlS G ρ H st) {n : Nat} {a : Addr} {so : SO} (h : ρ[n]? = some a) (hs : st[n]? = some so) : RlO G ρ H so a := hS.at_ n so a hs h
theorem post_val {Q : VK} {q : PV} {v : V} (h : Pst G E ρ H (KV G Q) (.ok q st)) (hS : RlS G ρ H st) (r : Rl G ρ H q v) : Q v H := h.ret hS v r
/-- a new tuple, as it is or with its object -/
def NewT (H : Hp) (xs : List V) (Q : VK) : Prop := ∃ b, ∀ p o, H p = none → PlT o → Q (.ref p) (upd H p (mkT b o xs))
theorem post_tup {Q : VK} {l : List PV} {xs : List V} (h : Pst G E ρ H (KV G Q) (.ok (.tup l) st)) (hS : RlS G ρ H st) (r : RlAll G ρ H l xs) : NewT H xs Q :=
  ⟨isF l, fun p o hp hpl => h ρ _ (ext_new hp) (hS.new hp) _ (.tup (.inl ⟨o, hpl, upd_same⟩) (r.ext (ext_new hp)))⟩
theorem post_lst {Q : VK} {l : List PV} {xs : List V} (h : Pst G E ρ H (KV G Q) (.ok (.lst l) st)) (hS : RlS G ρ H st) (r : RlAll G ρ H l xs) (hp : H p = none) : Q (.ref p) (upd H p (.lst xs)) :=
  h ρ _ (ext_new hp) (hS.new hp) _ (.lst ⟨.inl upd_same, hS.out hp⟩ (r.ext (ext_new hp)))
/-- a new object of the store -/
theorem ext_push {T : TR} (hp : H p = none) : Ext T ρ H (ρ ++ [p]) (upd H p o) :=
  ⟨List.prefix_append _ _, fun _ _ r _ _ => rd_upd hp r, fun a h => by
    rcases List.mem_append.mp h with h | h
    · exact .inl h
    · rw [List.mem_singleton.mp h]; exact .inr (.inl hp), (ext_new (T := T) (ρ := ρ) hp).free, (ext_new (T := T) (ρ := ρ) hp).tups, (ext_new (T := T) (ρ := ρ) hp).rs⟩
theorem RlS.push {so : SO} (hS : RlS G ρ H st) (hp : H p = none) (r : RlO G (ρ ++ [p]) (upd H p o) so p) : RlS G (ρ ++ [p]) (upd H p o) (st ++ [so]) where
  len := by simp [hS.len]
  nd := by
    have h := hS.notin hp
    rw [List.nodup_append]
    exact ⟨hS.nd, by simp, fun a ha b hb => by rw [List.mem_singleton.mp hb]; rintro rfl; exact h ha⟩
  at_ := fun n u a h1 h2 => by
    by_cases hn : n < st.length
    · rw [List.getElem?_append_left hn] at h1
      rw [List.getElem?_append_left (by rw [hS.len]; exact hn)] at h2
      exact (hS.at_ n u a h1 h2).ext (ext_push hp) (keep_new hp a)
    · have hn2 : n < (st ++ [so]).length := (List.getElem?_eq_some_iff.mp h1).1
      have e : n = st.length := by simp at hn2; omega
      subst e
      rw [List.getElem?_append_right (Nat.le_refl _)] at h1
      rw [← hS.len, List.getElem?_append_right (Nat.le_refl _)] at h2
      simp at h1 h2
      subst h1 h2
      exact r
  tabs := hS.tabs.ext (keep_new hp)
  res := fun a ha => ⟨nt_new hp (hS.res a ha).1, fun h => by
    rcases List.mem_append.mp h with h | h
    · exact (hS.res a ha).2 h
    · rw [List.mem_singleton.mp h] at ha; exact (hS.res p ha).1 (.inl hp)⟩
theorem post_lstR {Q : VK} {l : List PV} {xs : List V} (h : Pst G E ρ H (KV G Q) (.ok (.ref st.length) (st ++ [.lst l]))) (hS : RlS G ρ H st) (r : RlAll G ρ H l xs) (hp : H p = none) : Q (.ref p) (upd H p (.lst xs)) :=
  h (ρ ++ [p]) _ (ext_push hp) (hS.push hp (.lst upd_same (r.ext (ext_push hp)))) _ (.ref (by rw [← hS.len]; simp))
/-- an object of the store is changed -/
theorem RlS.ne (hS : RlS G ρ H st) {n m : Nat} {a b : Addr} (h : ρ[n]? = some a) (h' : ρ[m]? = some b) (hn : n ≠ m) : a ≠ b := fun e => by
  subst e
  obtain ⟨h1, e1⟩ := List.getElem?_eq_some_iff.mp h
  obtain ⟨h2, e2⟩ := List.getElem?_eq_some_iff.mp h'
  exact hn ((List.getElem_inj hS.nd).mp (e1.trans e2.symm))
def Chg : HO → Prop
  | .lst _ => True
  | .dK _ => True
  | .dT _ => True
  | .ins _ _ _ => True
  | _ => False
theorem tu_chg {u : HO} (t : TU u) (c : Chg u) : False := by
  cases u <;> first | exact t | exact c
theorem ext_set {a : Addr} {w : HO} (hS : RlS G ρ H st) (ha : a ∈ ρ) (hh : H a = some w) (hc : Chg w) (ho : ∀ ps, o ≠ .tbl ps := by intro ps z; cases z) : Ext G.T ρ H ρ (upd H a o) :=
  ⟨List.prefix_refl _, fun b u r n _ => by
    have ne : b ≠ a := fun e => n.1 (e ▸ ha)
    rcases r with r | ⟨w, r⟩
    · exact .inl (by rw [upd_ne ne]; exact r)
    · exact .inr ⟨w, by rw [upd_ne ne]; exact r⟩, fun _ h => .inl h, fun b h => by
    by_cases e : b = a
    · rcases h with h | ⟨ps, h⟩
      · rw [e, upd_same] at h; cases h
      · rw [e, upd_same] at h; exact absurd (Option.some.inj h) (ho ps)
    · unfold NT at h; rwa [upd_ne e] at h, fun b u t h => by
    have ne : b ≠ a := fun e => by rw [e, hh] at h; cases h; exact tu_chg t hc
    rw [upd_ne ne]; exact h, fun b hb _ => upd_ne fun e => (hS.res b hb).2 (by rw [e]; exact ha)⟩
theorem tabs_set {T : List (Addr × Str)} {a : Addr} {u : HO} (t : LamX.Tabs T H) (h : H a = some u) (c : Chg u) : LamX.Tabs T (upd H a o) := fun q hq => by
  obtain ⟨ps, h1, h2, h3⟩ := t q hq
  have n1 : q.1 ≠ a := fun e => by rw [e, h] at h1; cases h1; exact c
  refine ⟨ps, by rw [upd_ne n1]; exact h1, h2, fun pos cv hc => ?_⟩
  obtain ⟨d, e1, e2⟩ := h3 pos cv hc
  have n2 : d ≠ a := fun e => by rw [e, h] at e2; cases e2; exact c
  exact ⟨d, e1, by rw [upd_ne n2]; exact e2⟩
theorem RlS.set {n : Nat} {a : Addr} {so so' : SO} {u : HO} (hS : RlS G ρ H st) (ha : ρ[n]? = some a) (hs : st[n]? = some so) (hu : H a = some u) (hc : Chg u) (r : RlO G ρ (upd H a o) so' a) : RlS G ρ (upd H a o) (st.set n so') := by
  have hm : a ∈ ρ := List.mem_of_getElem? ha
  have ho : ∀ ps, o ≠ .tbl ps := fun ps z => by
    subst z
    cases r with
    | lst h _ => rw [upd_same] at h; cases h
    | dK h _ _ => rw [upd_same] at h; cases h
    | dT h _ _ => rw [upd_same] at h; cases h
    | ins _ h _ _ => rw [upd_same] at h; cases h
  refine ⟨by rw [List.length_set]; exact hS.len, hS.nd, fun m w b h1 h2 => ?_, tabs_set hS.tabs hu hc, fun b hb => ⟨fun z => (hS.res b hb).1 (nt_ne (fun e => (hS.res b hb).2 (by rw [e]; exact hm)) z), (hS.res b hb).2⟩⟩
  by_cases e : n = m
  · subst e
    rw [ha] at h2; cases h2
    rw [List.getElem?_set_self (List.getElem?_eq_some_iff.mp hs).1] at h1
    cases h1
    exact r
  · rw [List.getElem?_set_ne e] at h1
    have nb : b ≠ a := (hS.ne ha h2 e).symm
    exact (hS.at_ m w b h1 h2).ext (ext_set hS hm hu hc ho) (fun z q => by rw [upd_ne nb]; exact q)
end

/-! ### from one state to another one, the lists in the making others too -/
structure Mv (T : TR) (ρ : List Addr) (H : Hp) (T' : TR) (ρ' : List Addr) (H' : Hp) : Prop where
  pre : ρ <+: ρ'
  keep : ∀ a u, Rd H a u → Out T ρ a → (∀ ps, u ≠ .tbl ps) → Rd H' a u ∧ Out T' ρ' a
  tups : ∀ a u, TU u → H a = some u → H' a = some u
  er : ∀ q, T.err = some q → T'.err = some q
section
variable {K : PySem.W.Frag} {mg : Str → Option Value} {T T' T2 : TR} {ρ ρ' ρ2 : List Addr} {H H' H2 : Hp}
theorem Ext.mv (e : Ext T ρ H ρ' H') : Mv T ρ H T ρ' H' := ⟨e.pre, fun a u r o t => ⟨e.keep a u r o t, ⟨fun h => by
  rcases e.new a h with z | z
  · exact o.1 z
  · exact rd_nt r t z, o.2⟩⟩, e.tups, fun _ h => h⟩
theorem Mv.trans (e : Mv T ρ H T' ρ' H') (f : Mv T' ρ' H' T2 ρ2 H2) : Mv T ρ H T2 ρ2 H2 :=
  ⟨e.pre.trans f.pre, fun a u r o t => let ⟨r1, o1⟩ := e.keep a u r o t; f.keep a u r1 o1 t, fun a u t h => f.tups a u t (e.tups a u t h), fun q h => f.er q (e.er q h)⟩
mutual
theorem Rl.mv (e : Mv T ρ H T' ρ' H') : ∀ {p : PV} {v : V}, Rl ⟨K, mg, T⟩ ρ H p v → Rl ⟨K, mg, T'⟩ ρ' H' p v
  | _, _, .non => .non
  | _, _, .bl b => .bl b
  | _, _, .int i => .int i
  | _, _, .str x => .str x
  | _, _, .ty n => .ty n
  | _, _, .tup h r => .tup (h.elim (fun ⟨o, p, h⟩ => .inl ⟨o, p, e.tups _ _ (mkT_tu _ _ _) h⟩) .inr) (RlAll.mv e r)
  | _, _, .lst h r => .lst (e.keep _ _ h.1 h.2 (fun _ z => by cases z)) (RlAll.mv e r)
  | _, _, .dK h n k r => .dK (e.keep _ _ h n (fun _ z => by cases z)).1 (e.keep _ _ h n (fun _ z => by cases z)).2 k (RlAll.mv e r)
  | _, _, .dT h n k r => .dT (e.keep _ _ h n (fun _ z => by cases z)).1 (e.keep _ _ h n (fun _ z => by cases z)).2 k (RlAll.mv e r)
  | _, _, .ref h => .ref (by
      obtain ⟨t, rfl⟩ := e.pre
      rw [List.getElem?_append_left (List.getElem?_eq_some_iff.mp h).1]
      exact h)
  | _, _, .con h => .con h
  | _, _, .scr h r => .scr (h.imp (fun h => e.keep _ _ h.1 h.2 (fun _ z => by cases z)) id) (RlAll.mv e r)
  | _, _, .err q h n r => .err (e.er _ q) (e.keep _ _ h n (fun _ z => by cases z)).1 (e.keep _ _ h n (fun _ z => by cases z)).2 (Rl.mv e r)
theorem RlAll.mv (e : Mv T ρ H T' ρ' H') : ∀ {ps : List PV} {vs : List V}, RlAll ⟨K, mg, T⟩ ρ H ps vs → RlAll ⟨K, mg, T'⟩ ρ' H' ps vs
  | _, _, .nil => .nil
  | _, _, .cons r t => .cons (Rl.mv e r) (RlAll.mv e t)
end
theorem RlE.mv (e : Mv T ρ H T' ρ' H') {aσ : AE} {σ : St} (h : RlE ⟨K, mg, T⟩ ρ H aσ σ) : RlE ⟨K, mg, T'⟩ ρ' H' aσ σ :=
  ⟨h.len, fun i p q => let ⟨v, a, b⟩ := h.at_ i p q; ⟨v, a, b.mv e⟩⟩
theorem RlO.mv {o : SO} {a : Addr} (e : Mv T ρ H T' ρ' H') (k : ∀ u, H a = some u → H' a = some u) (h : RlO ⟨K, mg, T⟩ ρ H o a) : RlO ⟨K, mg, T'⟩ ρ' H' o a := by
  cases h with
  | lst h r => exact .lst (k _ h) (r.mv e)
  | dK h x r => exact .dK (k _ h) x (r.mv e)
  | dT h x r => exact .dT (k _ h) x (r.mv e)
  | ins c h x r => exact .ins c (k _ h) x (r.mv e)
/-- a list at D is being made -/
abbrev TR.add (T : TR) (D : Addr) : TR := ⟨T.tabs, D :: T.res, T.err⟩
theorem mv_in {D : Addr} {o : HO} (hD : H D = none) : Mv T ρ H (T.add D) ρ (upd H D o) :=
  ⟨List.prefix_refl _, fun a u r n _ => ⟨rd_upd hD r, n.1, fun h => by
    rcases List.mem_cons.mp h with rfl | h
    · exact rd_not r hD
    · exact n.2 h⟩, fun a u _ h => by rw [upd_ne (ne_of_none h hD)]; exact h, fun _ h => h⟩
theorem mv_out {D : Addr} : Mv (T.add D) ρ H T ρ H := ⟨List.prefix_refl _, fun a u r n _ => ⟨r, n.1, fun h => n.2 (List.mem_cons_of_mem _ h)⟩, fun _ _ _ h => h, fun _ h => h⟩
theorem mv_outR {D : Addr} : Mv (T.add D) ρ H T (ρ ++ [D]) H := ⟨List.prefix_append _ _, fun a u r n _ => ⟨r, fun h => by
  rcases List.mem_append.mp h with h | h
  · exact n.1 h
  · rw [List.mem_singleton.mp h] at n; exact n.2 List.mem_cons_self, fun h => n.2 (List.mem_cons_of_mem _ h)⟩, fun _ _ _ h => h, fun _ h => h⟩
theorem rls_in {D : Addr} {o : HO} {st : Store} (h : RlS ⟨K, mg, T⟩ ρ H st) (hD : H D = none) (ho : ∀ ps, o ≠ .tbl ps := by intro ps z; cases z) : RlS ⟨K, mg, T.add D⟩ ρ (upd H D o) st :=
  ⟨h.len, h.nd, fun n w a h1 h2 => (h.at_ n w a h1 h2).mv (mv_in hD) (keep_new hD a), h.tabs.ext (keep_new hD), fun a ha => by
    rcases List.mem_cons.mp ha with rfl | ha
    · exact ⟨nt_at ho, h.notin hD⟩
    · exact ⟨nt_new hD (h.res a ha).1, (h.res a ha).2⟩⟩
theorem rls_out {D : Addr} {st : Store} (h : RlS ⟨K, mg, T.add D⟩ ρ H st) : RlS ⟨K, mg, T⟩ ρ H st :=
  ⟨h.len, h.nd, fun n w a h1 h2 => (h.at_ n w a h1 h2).mv mv_out (fun _ q => q), h.tabs, fun a ha => h.res a (List.mem_cons_of_mem _ ha)⟩
theorem rls_outO {D : Addr} {st : Store} {so : SO} (h : RlS ⟨K, mg, T.add D⟩ ρ H st) (r : RlO ⟨K, mg, T⟩ (ρ ++ [D]) H so D) (hn : D ∉ T.res) : RlS ⟨K, mg, T⟩ (ρ ++ [D]) H (st ++ [so]) where
  len := by simp [h.len]
  nd := by
    have z := (h.res D List.mem_cons_self).2
    rw [List.nodup_append]
    exact ⟨h.nd, by simp, fun a ha b hb => by rw [List.mem_singleton.mp hb]; rintro rfl; exact z ha⟩
  at_ := fun n u a h1 h2 => by
    by_cases hh : n < st.length
    · rw [List.getElem?_append_left hh] at h1
      rw [List.getElem?_append_left (by rw [h.len]; exact hh)] at h2
      exact (h.at_ n u a h1 h2).mv mv_outR (fun _ q => q)
    · have hn2 : n < (st ++ [so]).length := (List.getElem?_eq_some_iff.mp h1).1
      have e : n = st.length := by simp at hn2; omega
      subst e
      rw [List.getElem?_append_right (Nat.le_refl _)] at h1
      rw [← h.len, List.getElem?_append_right (Nat.le_refl _)] at h2
      simp at h1 h2
      subst h1 h2
      exact r
  tabs := h.tabs
  res := fun a ha => ⟨(h.res a (List.mem_cons_of_mem _ ha)).1, fun hm => by
    rcases List.mem_append.mp hm with hm | hm
    · exact (h.res a (List.mem_cons_of_mem _ ha)).2 hm
    · rw [List.mem_singleton.mp hm] at ha; exact hn ha⟩
theorem rls_outR {D : Addr} {st : Store} {l : List PV} {xs : List V} (h : RlS ⟨K, mg, T.add D⟩ ρ H st) (hD : H D = some (.lst xs)) (r : RlAll ⟨K, mg, T.add D⟩ ρ H l xs) (hn : D ∉ T.res) : RlS ⟨K, mg, T⟩ (ρ ++ [D]) H (st ++ [.lst l]) :=
  rls_outO h (.lst hD (r.mv mv_outR)) hn
/-- the list in the making grows -/
theorem mv_grow {D : Addr} {o : HO} {u : HO} (hD : H D = some u) (hc : Chg u) (hr : D ∈ T.res) : Mv T ρ H T ρ (upd H D o) :=
  ⟨List.prefix_refl _, fun b w r n _ => by
    have ne : b ≠ D := fun e => n.2 (e ▸ hr)
    rcases r with r | ⟨z, r⟩
    · exact ⟨.inl (by rw [upd_ne ne]; exact r), n⟩
    · exact ⟨.inr ⟨z, by rw [upd_ne ne]; exact r⟩, n⟩, fun b u t h => by
    have ne : b ≠ D := fun e => by rw [e, hD] at h; cases h; exact tu_chg t hc
    rw [upd_ne ne]; exact h, fun _ h => h⟩
theorem rls_grow {D : Addr} {o : HO} {u : HO} {st : Store} (h : RlS ⟨K, mg, T⟩ ρ H st) (hD : H D = some u) (hc : Chg u) (hr : D ∈ T.res) (ho : ∀ ps, o ≠ .tbl ps := by intro ps z; cases z) : RlS ⟨K, mg, T⟩ ρ (upd H D o) st :=
  ⟨h.len, h.nd, fun n w a h1 h2 => (h.at_ n w a h1 h2).mv (mv_grow hD hc hr) (fun z q => by
    have ne : a ≠ D := fun e => (h.res D hr).2 (e ▸ List.mem_of_getElem? h2)
    rw [upd_ne ne]; exact q), tabs_set h.tabs hD hc, fun a ha => ⟨fun z => by
    by_cases e : a = D
    · subst e; exact nt_at ho z
    · exact (h.res a ha).1 (nt_ne e z), (h.res a ha).2⟩⟩
end
end DN
set_option Elab.async false
set_option linter.all false
set_option maxRecDepth 100000
set_option maxHeartbeats 2000000
/-! DnTup: tuples that are made, with their objects where wanted. -/
namespace DN
open PySem PySem.Spec PyProof.Rows L2
section
variable {X : Cx} {H : Hp} {σ : St}
theorem mkT_ok {P : Program} {w : World} {h : Heap} {p : Addr} {o : Obj} {xs : List V} (b : Bool) (e : h.get? p = some o) (r : ObjOk P w H h p (.tup xs)) : ObjOk P w H h p (mkT b o xs) := by
  cases b
  · exact r
  · exact ⟨e, r⟩
theorem plT_new (its : Array Value) (n : Nat) : PlT { cls := .type "tuple", data := .seq its n } := ⟨rfl, rfl⟩
/-- (e, ..) -/
def tTupF (t : TA) : TE := fun σ H Q => t σ H fun xs H1 => xs.length ≤ sizeLine ∧ NewT H1 xs Q
theorem pe_tupF {es : List Expr} {t : TA} {pos : Pos} {x1} (h : PA X es t) : PE X (.Tuple es x1 pos) (tTupF t) := by
  refine ⟨fun pins s σ H Q I hq => ?_⟩
  refine wpAny_Tuple_spliced (thn (h.run pos pins s σ H _ I hq) fun us s1 ⟨xs, H1, I1, r, z, b, q⟩ => ⟨by rw [← r.length]; exact z, ?_⟩)
  have hf : H1 s1.heap.objs.size = none := I1.hok.fresh (Nat.le_refl _)
  refine ⟨.ref s1.heap.objs.size, _, I1.laid (t' := s1.toks) (fun b u e => Heap.get?_push_of_some _ e) (Nat.le_refl _) (mkT_ok b (Heap.get?_push_size _ rfl) ?_), rfl, q _ _ hf (plT_new _ _)⟩
  exact ⟨z, us, r, ⟨_, Heap.get?_push_size _ rfl, rfl, _, rfl⟩⟩
/-- t + u -/
def rCatF (K : PySem.W.Frag) : R2 := fun x y H Q => ∃ a b xs ys, x = .ref a ∧ y = .ref b ∧ SqT K H a xs ∧ SqT K H b ys ∧ xs.length + ys.length ≤ sizeLine ∧
  (xs = [] → Q (.ref b) H) ∧ (xs ≠ [] → ys = [] → Q (.ref a) H) ∧ (xs ≠ [] → ys ≠ [] → NewT H (xs ++ ys) Q)
theorem op_catF : OpR X (binaryOp .Add) (rCatF X.K) := by
  intro pins s σ H x y v u Q I rx ry h
  obtain ⟨a, b, xs, ys, rfl, rfl, ha, hb, hz, q0, q1, q2⟩ := h
  by_cases hx : xs = []
  · exact op_catA pins s σ H _ _ v u Q I rx ry ⟨a, b, xs, ys, rfl, rfl, ha, hb, hz, q0, q1, fun z => absurd hx z⟩
  by_cases hy : ys = []
  · exact op_catA pins s σ H _ _ v u Q I rx ry ⟨a, b, xs, ys, rfl, rfl, ha, hb, hz, q0, q1, fun _ z => absurd hy z⟩
  cases rx
  cases ry
  obtain ⟨its, r1, p1, _⟩ := I.tuple ha
  obtain ⟨its2, r2, p2, _⟩ := I.tuple hb
  obtain ⟨k, q⟩ := q2 hx hy
  refine HT.cat_tup p1 p2 (fun z => hx (r1.nil_iff.mp z)) (fun z => absurd (r2.nil_iff.mp z) hy) (fun z => ?_) (by rw [← r1.length, ← r2.length]; exact hz)
  refine ⟨.ref s.heap.objs.size, _, I.laid (t' := s.toks) (fun b ob q => Heap.get?_push_of_some _ q) (Nat.le_refl _) (mkT_ok k (Heap.get?_push_size _ rfl) ?_), rfl, q _ _ (I.hok.fresh (Nat.le_refl _)) (plT_new _ _)⟩
  exact ⟨by rw [List.length_append]; exact hz, _, r1.append r2, IsTup.new _ _⟩
/-- tuple(xs), tuple(t) -/
def rTupF (K : PySem.W.Frag) : List V → Hp → VK → Prop := fun xs H Q => ∃ p ys, xs = [.ref p] ∧ ((SqL K H p ys ∧ NewT H ys Q) ∨ (SqT K H p ys ∧ Q (.ref p) H))
theorem call_tupleF : CallR X (.type "tuple") (rTupF X.K) := by
  intro pins s σ H xs us Q I r h
  obtain ⟨p, ys, rfl, h⟩ := h
  rcases h with ⟨hq, b, q⟩ | h
  · obtain ⟨u, rfl, rx⟩ := vals1 r
    cases rx
    obtain ⟨its, r', pl, hz⟩ := I.list hq
    have hlen := r'.length
    refine call_tuple_list pl.isList (fun h' kp => ?_) (by simp only [List.size_toArray] <;> omega)
    have I1 : Inv X pins σ H { s with heap := h' } := I.kept (t' := s.toks) kp
    have I2 := I1.laid (h' := h'.push { cls := .type "tuple", data := .seq its.toArray }) (t' := s.toks) (fun b o e => Heap.get?_push_of_some _ e) (Nat.le_refl _) (mkT_ok b (Heap.get?_push_size _ rfl) (show ObjOk X.prog X.w _ _ _ (.tup ys) from ⟨hz, its, r', IsTup.new _ _⟩))
    exact ⟨.ref h'.objs.size, _, I2, rfl, q _ _ (I1.hok.fresh (Nat.le_refl _)) (plT_new _ _)⟩
  · exact call_tuple_of pins s σ H _ us Q I r ⟨p, ys, rfl, .inr h⟩
/-- t[lo:hi] -/
def rSlF (K : PySem.W.Frag) : V → Option Int → Option Int → Hp → VK → Prop := fun x lo hi H Q => ∃ a xs, x = .ref a ∧ SqT K H a xs ∧
  (HT.sIx xs.length 0 lo = 0 ∧ HT.sIx xs.length xs.length hi = xs.length → Q (.ref a) H) ∧ (¬ (HT.sIx xs.length 0 lo = 0 ∧ HT.sIx xs.length xs.length hi = xs.length) → NewT H (cutV xs lo hi) Q)
theorem sl_tupF : SlR X (rSlF X.K) := by
  intro pins s σ H x v vl vu lo hi sl Q I rx hs pl pu h
  obtain ⟨a, xs, rfl, hx, q1, q2⟩ := h
  by_cases hw : HT.sIx xs.length 0 lo = 0 ∧ HT.sIx xs.length xs.length hi = xs.length
  · exact sl_tupA pins s σ H _ v vl vu lo hi sl Q I rx hs pl pu ⟨a, xs, rfl, hx, q1, fun z => absurd hw z⟩
  obtain ⟨k, q⟩ := q2 hw
  cases rx
  obtain ⟨its, r, ht, hz⟩ := I.tuple hx
  have hlen : its.toArray.size = xs.length := by rw [List.size_toArray]; exact r.length.symm
  refine ⟨"tuple", _, PyProof.Rows.slot_tuple_getitem.lookup, ht.typeIs, ?_⟩
  refine HT.getItem_tuple_cut ht hs pl pu (by rw [hlen]; exact hw) ?_ (by rw [hlen]; exact hz)
  rw [hlen]
  refine ⟨.ref s.heap.objs.size, _, I.laid (t' := s.toks) (fun b ob q => Heap.get?_push_of_some _ q) (Nat.le_refl _) (mkT_ok k (Heap.get?_push_size _ rfl) ?_), rfl, q _ _ (I.hok.fresh (Nat.le_refl _)) (plT_new _ _)⟩
  exact ⟨Nat.le_trans (cutV_length xs lo hi) hz, _, (r.drop (HT.sIx xs.length 0 lo)).take (HT.sIx xs.length xs.length hi - HT.sIx xs.length 0 lo), IsTup.new _ _⟩
end
end DN
set_option Elab.async false
set_option linter.all false
set_option maxRecDepth 100000
set_option maxHeartbeats 2000000
/-! DnExpr: expressions. -/
namespace DN
open PySem PySem.Spec PyProof.Rows L2

/-! ### readings -/
def dVar (i : Nat) : DE := fun σ st => match σ[i]? with
  | some (some v) => .ok v st
  | _ => .fail
def dC (v : PV) : DE := fun _ st => .ok v st
def d1 (d : PV → M PV) (f : DE) : DE := fun σ st => (f σ st).bind d
def d2 (d : PV → PV → M PV) (f g : DE) : DE := fun σ st => (f σ st).bind fun x st => (g σ st).bind fun y st => d x y st
def dA0 : DA := fun _ st => .ok [] st
def dAc (f : DE) (r : DA) : DA := fun σ st => (f σ st).bind fun x st => (r σ st).bind fun xs st => .ok (x :: xs) st
def dAl (d : List PV → M PV) (f : DA) : DE := fun σ st => (f σ st).bind d
def ofB : Bool → M PV := fun b st => .ok (.bl b) st
/-- a truth as a test -/
def tB (p : PV) : M Bool := fun st => match p with
  | .bl b => .ok b st
  | _ => .fail
def bVal (f : DE) : DB := fun σ st => (f σ st).bind tB
def bNot (f : DB) : DB := fun σ st => (f σ st).bind fun b st => .ok (!b) st
def bAnd (f g : DB) : DB := fun σ st => (f σ st).bind fun b st => if b then g σ st else .ok false st
def bOr (f g : DB) : DB := fun σ st => (f σ st).bind fun b st => if b then .ok true st else g σ st
def dIf (c : DB) (f g : DE) : DE := fun σ st => (c σ st).bind fun b st => if b then f σ st else g σ st
def dAnd (f g : DE) : DE := fun σ st => (f σ st).bind fun p st => (tB p st).bind fun b st => if b then g σ st else .ok (.bl false) st
def dOr (f g : DE) : DE := fun σ st => (f σ st).bind fun p st => (tB p st).bind fun b st => if b then .ok (.bl true) st else g σ st
def dNot (f : DE) : DE := fun σ st => (f σ st).bind fun p st => (tB p st).bind fun b st => .ok (.bl (!b)) st

abbrev SZ : Nat := 16777216
theorem SZ_eq : sizeLine = SZ := sizeLine_eq

/-- the items of a list -/
def asL (p : PV) (st : Store) : Option (List PV) := match p with
  | .lst l => some l
  | .ref n => (match st[n]? with
    | some (.lst l) => some l
    | _ => none)
  | _ => none

/-- the items of a list that is read -/
def asR (p : PV) (st : Store) : Option (List PV) := match p with
  | .scr l => some l
  | p => asL p st

/-! ### what the rules want -/
section
variable {X : Cx} {T : TR} {E : XK} {G : DG} {ρ : List Addr} {H : Hp} {σ : St} {aσ : AE} {st : Store}
def Adq1 (G : DG) (E : XK) (r : V → Hp → VK → Prop) (d : PV → M PV) : Prop := ∀ ρ H st x v Q, RlS G ρ H st → Rl G ρ H x v → Pst G E ρ H (KV G Q) (d x st) → r v H Q
def Adq2 (G : DG) (E : XK) (r : R2) (d : PV → PV → M PV) : Prop := ∀ ρ H st x y v u Q, RlS G ρ H st → Rl G ρ H x v → Rl G ρ H y u → Pst G E ρ H (KV G Q) (d x y st) → r v u H Q
def AdqL (G : DG) (E : XK) (r : List V → Hp → VK → Prop) (d : List PV → M PV) : Prop := ∀ ρ H st xs vs Q, RlS G ρ H st → RlAll G ρ H xs vs → Pst G E ρ H (KV G Q) (d xs st) → r vs H Q
theorem tv_bind {β : Type} {f : DE} {k : PV → Store → Res β} {K : β → Store → List Addr → Hp → Prop} {W : VK} (hE : RlE G ρ H aσ σ) (hS : RlS G ρ H st) (h : Pst G E ρ H K ((f aσ st).bind k))
    (q : ∀ ρ1 H1 x v st1, Ext G.T ρ H ρ1 H1 → RlS G ρ1 H1 st1 → RlE G ρ1 H1 aσ σ → Rl G ρ1 H1 x v → Pst G E ρ1 H1 K (k x st1) → W v H1) : Tv G E f σ H W :=
  ⟨ρ, aσ, st, hE, hS, h.bind.imp fun x st1 ρ1 H1 _ _ z v r => q ρ1 H1 x v st1 z.1 z.2.1 (hE.ext z.1) r z.2.2⟩
theorem tb_bind {β : Type} {f : DB} {k : Bool → Store → Res β} {K : β → Store → List Addr → Hp → Prop} {W : Bool → Hp → Prop} (hE : RlE G ρ H aσ σ) (hS : RlS G ρ H st) (h : Pst G E ρ H K ((f aσ st).bind k))
    (q : ∀ ρ1 H1 b st1, Ext G.T ρ H ρ1 H1 → RlS G ρ1 H1 st1 → RlE G ρ1 H1 aσ σ → Pst G E ρ1 H1 K (k b st1) → W b H1) : Tb G E f σ H W :=
  ⟨ρ, aσ, st, hE, hS, h.bind.imp fun x st1 ρ1 H1 _ _ z => q ρ1 H1 x st1 z.1 z.2.1 (hE.ext z.1) z.2.2⟩
theorem ta_bind {β : Type} {f : DA} {k : List PV → Store → Res β} {K : β → Store → List Addr → Hp → Prop} {W : List V → Hp → Prop} (hE : RlE G ρ H aσ σ) (hS : RlS G ρ H st) (h : Pst G E ρ H K ((f aσ st).bind k))
    (q : ∀ ρ1 H1 xs vs st1, Ext G.T ρ H ρ1 H1 → RlS G ρ1 H1 st1 → RlE G ρ1 H1 aσ σ → RlAll G ρ1 H1 xs vs → Pst G E ρ1 H1 K (k xs st1) → W vs H1) : Ta G E f σ H W :=
  ⟨ρ, aσ, st, hE, hS, h.bind.imp fun x st1 ρ1 H1 _ _ z v r => q ρ1 H1 x v st1 z.1 z.2.1 (hE.ext z.1) r z.2.2⟩
theorem tv1 {f : DE} {d : PV → M PV} {r : V → Hp → VK → Prop} {Q : VK} (ad : Adq1 G E r d) (h : Tv G E (d1 d f) σ H Q) : Tv G E f σ H fun v H1 => r v H1 Q := by
  obtain ⟨ρ, aσ, st, hE, hS, h⟩ := h
  exact tv_bind hE hS h fun ρ1 H1 x v st1 _ s _ r h => ad ρ1 H1 st1 x v Q s r h
theorem tv2 {f g : DE} {d : PV → PV → M PV} {r : R2} {Q : VK} (ad : Adq2 G E r d) (h : Tv G E (d2 d f g) σ H Q) : Tv G E f σ H fun v H1 => Tv G E g σ H1 fun u H2 => r v u H2 Q := by
  obtain ⟨ρ, aσ, st, hE, hS, h⟩ := h
  exact tv_bind hE hS h fun ρ1 H1 x v st1 _ s e r h => tv_bind e s h fun ρ2 H2 y u st2 x2 s2 _ r2 h => ad ρ2 H2 st2 x y v u Q s2 (r.ext x2) r2 h
theorem tvl {f : DA} {d : List PV → M PV} {r : List V → Hp → VK → Prop} {Q : VK} (ad : AdqL G E r d) (h : Tv G E (dAl d f) σ H Q) : Ta G E f σ H fun vs H1 => r vs H1 Q := by
  obtain ⟨ρ, aσ, st, hE, hS, h⟩ := h
  exact ta_bind hE hS h fun ρ1 H1 x v st1 _ s _ r h => ad ρ1 H1 st1 x v Q s r h

/-! ### names and constants -/
theorem ev_name (i : Nat) {x : Str} {pos : Pos} (hN : X.N[i]? = some x := by rfl) (hv : Vis X.env.scope x := by first | exact Or.inl rfl | exact Or.inr (Or.inl rfl) | exact Or.inr (Or.inr rfl)) (hd : (x == ("__debug__" : Str)) = false := by decide)
    (hcd : (x == ("__classdict__" : Str)) = false := by decide) : EV X T E (.Name x pos) (dVar i) := pe_imp (pe_var hN hv hd hcd) fun σ H Q h => by
  obtain ⟨ρ, aσ, st, hE, hS, h⟩ := h
  unfold dVar at h
  split at h
  · rename_i v e
    obtain ⟨u, e2, r⟩ := hE.at_ i v e
    exact ⟨u, e2, post_val h hS r⟩
  · exact h.elim
theorem ev_c {e : Expr} {p : PV} {v : V} (h : PE X e (tC v)) (r : ∀ ρ H, Rl (gOf X T) ρ H p v) : EV X T E e (dC p) := pe_imp h fun σ H Q h => by
  obtain ⟨ρ, aσ, st, hE, hS, h⟩ := h
  exact post_val h hS (r ρ H)
theorem ev_int {i j pos} : EV X T E (.Constant (.int i) j pos) (dC (.int i)) := ev_c pe_int fun _ _ => .int i
theorem ev_bl {b j pos} : EV X T E (.Constant (.bool b) j pos) (dC (.bl b)) := ev_c pe_bl fun _ _ => .bl b
theorem ev_non {j pos} : EV X T E (.Constant .none j pos) (dC .non) := ev_c pe_non fun _ _ => .non
theorem ev_str {x j pos} : EV X T E (.Constant (.str x) j pos) (dC (.str x)) := ev_c pe_str fun _ _ => .str x
/-- a module's name -/
theorem ev_glob {x : Str} {a : Addr} {pos : Pos} (hg : Gl X x) (hm : X.mg x = some (.ref a)) (hd : (x == ("__debug__" : Str)) = false := by decide) : EV X T E (.Name x pos) (dC (.con x)) := ev_c (pe_glob (v := .ref a) hg hm rfl hd) fun _ _ => .con hm
theorem ev_gint {x : Str} {i : Int} {pos : Pos} (hg : Gl X x) (hm : ∃ t, X.mg x = some (.int i t)) (hd : (x == ("__debug__" : Str)) = false := by decide) : EV X T E (.Name x pos) (dC (.int i)) := by
  obtain ⟨t, hm⟩ := hm
  exact ev_c (pe_glob (v := .int i) hg hm ⟨t, rfl⟩ hd) fun _ _ => .int i
theorem ev_gstr {x z : Str} {pos : Pos} (hg : Gl X x) (hm : ∃ t, X.mg x = some (.str z t)) (hd : (x == ("__debug__" : Str)) = false := by decide) : EV X T E (.Name x pos) (dC (.str z)) := by
  obtain ⟨t, hm⟩ := hm
  exact ev_c (pe_glob (v := .str z) hg hm ⟨t, rfl⟩ hd) fun _ _ => .str z
/-- a written tuple of the module -/
theorem ev_gtup {x : Str} {p : PV} {a : Addr} {pos : Pos} (hg : Gl X x) (hm : X.mg x = some (.ref a)) (r : ∀ ρ H, Rl (gOf X T) ρ H p (.ref a)) (hd : (x == ("__debug__" : Str)) = false := by decide) : EV X T E (.Name x pos) (dC p) := ev_c (pe_glob (v := .ref a) hg hm rfl hd) r
theorem ev_bty {x : Str} {n : String} {pos : Pos} (hg : Gl X x) (hm : X.mg x = none) (hv : bootBuiltins x = some (.type n)) (hn : x ≠ "__name__" := by decide) (hd : (x == ("__debug__" : Str)) = false := by decide) : EV X T E (.Name x pos) (dC (.ty n)) :=
  ev_c (pe_bltn (v := .ty n) hg hm hv rfl hn hd) fun _ _ => .ty n

/-! ### operators -/
variable {a b c : Expr} {fa fb fc : DE} {pos : Pos}
theorem ev_op {op : Operator} {r : R2} {d : PV → PV → M PV} (ho : OpR X (binaryOp op) r) (ad : Adq2 (gOf X T) E r d) (ha : EV X T E a fa) (hb : EV X T E b fb) : EV X T E (.BinOp a op b pos) (d2 d fa fb) :=
  pe_imp (pe_op ho ha hb) fun _ _ _ h => tv2 ad h
theorem ev_un {op : UnaryOp} {r : V → Hp → VK → Prop} {d : PV → M PV} (ho : UnR X (unaryOp op) r) (ad : Adq1 (gOf X T) E r d) (ha : EV X T E a fa) : EV X T E (.UnaryOp op a pos) (d1 d fa) :=
  pe_imp (pe_un ho ha) fun _ _ _ h => tv1 ad h
theorem ev_cmp {op : CmpOp} {r : R2} {d : PV → PV → M PV} (ho : OpR X (compareOp op) r) (ad : Adq2 (gOf X T) E r d) (hm : behindInMarks op b = false) (ha : EV X T E a fa) (hb : EV X T E b fb) : EV X T E (.Compare a [op] [b] pos) (d2 d fa fb) :=
  pe_imp (pe_cmpR ho ha hb hm) fun _ _ _ h => tv2 ad h
theorem OpR.imp {f : Value → Value → Sem Value} {r r' : R2} (h : OpR X f r) (i : ∀ x y H Q, r' x y H Q → r x y H Q) : OpR X f r' := fun pins s σ H x y v u Q I rx ry q => h pins s σ H x y v u Q I rx ry (i x y H Q q)
end

/-! ### + - * // % ** -/
def pAdd (x y : PV) : M PV := fun st => match x, y with
  | .int i, .int j => .ok (.int (i + j)) st
  | .str x, .str y => if x.length + y.length ≤ SZ then .ok (.str (x ++ y)) st else .fail
  | .tup x, .tup y => if x.length + y.length ≤ SZ then .ok (.tup (x ++ y)) st else .fail
  | x, y => match asL x st, asL y st with
    | some x, some y => if x.length + y.length ≤ SZ then .ok (.lst (x ++ y)) st else .fail
    | _, _ => .fail
def pSub (x y : PV) : M PV := fun st => match x, y with
  | .int i, .int j => .ok (.int (i - j)) st
  | _, _ => .fail
/-- a factor below 2 ^ 64 -/
abbrev B64 : Int := 18446744073709551616
/-- a divisor below 2 ^ 200 -/
abbrev B200 : Int := 1606938044258990275541962092341162602522202993782792835301376
def pMul (x y : PV) : M PV := fun st => match x, y with
  | .int i, .int j => if (-B64 < i ∧ i < B64) ∨ (-B64 < j ∧ j < B64) then .ok (.int (i * j)) st else .fail
  | _, _ => .fail
def pDiv (x y : PV) : M PV := fun st => match x, y with
  | .int i, .int j => if 0 < j ∧ j < B200 then .ok (.int (i / j)) st else .fail
  | _, _ => .fail
def pMod (x y : PV) : M PV := fun st => match x, y with
  | .int i, .int j => if 0 < j then .ok (.int (i % j)) st else .fail
  | _, _ => .fail
def pPow (x y : PV) : M PV := fun st => match x, y with
  | .int i, .int j => if 0 ≤ j ∧ j ≤ 1000 ∧ -B64 < i ∧ i < B64 then .ok (.int (i ^ j.toNat)) st else .fail
  | _, _ => .fail
def pNeg (x : PV) : M PV := fun st => match x with
  | .int i => .ok (.int (-i)) st
  | _ => .fail

section
variable {X : Cx} {T : TR} {E : XK} {G : DG} {ρ : List Addr} {H : Hp} {σ : St} {aσ : AE} {st : Store}
theorem asL_rl {p : PV} {v : V} {l : List PV} (hS : RlS G ρ H st) (r : Rl G ρ H p v) (h : asL p st = some l) : ∃ a xs, v = .ref a ∧ Rd H a (.lst xs) ∧ RlAll G ρ H l xs := by
  unfold asL at h
  split at h
  · cases h
    cases r with
    | lst q ra => exact ⟨_, _, rfl, q.1, ra⟩
  · split at h
    · rename_i n _ l' e
      cases h
      cases r with
      | ref q =>
        cases hS.ref q e with
        | lst h r => exact ⟨_, _, rfl, .inl h, r⟩
    · cases h
  · cases h
theorem asR_rl {p : PV} {v : V} {l : List PV} (hS : RlS G ρ H st) (r : Rl G ρ H p v) (h : asR p st = some l) : ∃ a xs, v = .ref a ∧ SqL G.K H a xs ∧ RlAll G ρ H l xs := by
  unfold asR at h
  split at h
  · cases h
    cases r with
    | scr q ra => exact ⟨_, _, rfl, q.elim (fun q => .inl q.1) fun q => q H, ra⟩
  · obtain ⟨a, xs, e, rd, ra⟩ := asL_rl hS r h
    exact ⟨a, xs, e, .inl rd, ra⟩
theorem inv_lst {pins : List (Addr × Obj)} {s : Shared} {a : Addr} {xs : List V} (I : Inv X pins σ H s) (r : Rd H a (.lst xs)) : xs.length ≤ sizeLine ∧ ∃ (its : List Value) (n : Nat), Vals xs its ∧ xs.length = its.length ∧ s.heap.get? a = some { cls := .type "list", data := .seq its.toArray n } := by
  obtain ⟨z, its, n, r, e⟩ := (r.ok I.hok : ObjOk X.prog X.w H s.heap a (.lst xs))
  exact ⟨z, its, n, r, r.length, e⟩
/-- xs + ys, lists that are read -/
def rCatL : R2 := fun x y H Q => ∃ l b xs zs, x = .ref l ∧ y = .ref b ∧ Rd H l (.lst xs) ∧ Rd H b (.lst zs) ∧ xs.length + zs.length ≤ sizeLine ∧ ∀ p, H p = none → Q (.ref p) (upd H p (.lst (xs ++ zs)))
theorem op_catL : OpR X (binaryOp .Add) rCatL := by
  intro pins s σ H x y v u Q I rx ry h
  obtain ⟨l, b, xs, zs, rfl, rfl, hH, hB, hz, q⟩ := h
  cases rx
  cases ry
  obtain ⟨z, its, n, r, hl, e⟩ := inv_lst I hH
  obtain ⟨z2, its2, n2, r2, hl2, e2⟩ := inv_lst I hB
  refine PySem.P.add_list e e2 ?_ (by rw [List.size_toArray, List.size_toArray]; omega)
  have ea : its.toArray ++ its2.toArray = (its ++ its2).toArray := by simp
  rw [ea]
  exact ⟨.ref _, _, I.lnew (t' := s.toks) (r.append r2) (by rw [List.length_append]; omega), rfl, q _ I.fresh⟩
def rAddAll (K : PySem.W.Frag) : R2 := fun x y H Q => (((rI0 fun i j => .int (i + j)) x y H Q ∨ (∃ i j, x = .str i ∧ y = .str j ∧ i.length + j.length ≤ sizeLine ∧ Q (.str (i ++ j)) H)) ∨ rCatF K x y H Q) ∨ rCatL x y H Q
theorem op_addAll : OpR X (binaryOp .Add) (rAddAll X.K) := ((op_add.or op_add_str).or op_catF).or op_catL
theorem ad_add : Adq2 G E (rAddAll G.K) pAdd := fun ρ H st x y v u Q hS rx ry h => by
  unfold pAdd at h
  split at h
  · rename_i i j
    cases rx; cases ry
    exact .inl (.inl (.inl ⟨_, _, rfl, rfl, post_val h hS (.int _)⟩))
  · split at h
    · rename_i hz
      cases rx; cases ry
      exact .inl (.inl (.inr ⟨_, _, rfl, rfl, by rw [SZ_eq]; exact hz, post_val h hS (.str _)⟩))
    · exact h.elim
  · split at h
    · rename_i x y hz
      cases rx with
      | tup hx ax =>
        cases ry with
        | tup hy ay =>
          refine .inl (.inr ⟨_, _, _, _, rfl, rfl, hx.sq, hy.sq, by rw [SZ_eq, ← ax.length, ← ay.length]; exact hz, fun e => ?_, fun _ e => ?_, fun _ _ => post_tup h hS (ax.append ay)⟩)
          · subst e
            cases ax
            exact post_val h hS (.tup hy ay)
          · subst e
            cases ay
            rw [List.append_nil] at h
            exact post_val h hS (.tup hx ax)
    · exact h.elim
  · split at h
    · rename_i e1 e2
      split at h
      · rename_i hz
        obtain ⟨a, xs, rfl, h1, r1⟩ := asL_rl hS rx e1
        obtain ⟨b, ys, rfl, h2, r2⟩ := asL_rl hS ry e2
        exact .inr ⟨_, _, _, _, rfl, rfl, h1, h2, by rw [SZ_eq, ← r1.length, ← r2.length]; exact hz, fun p hp => post_lst h hS (r1.append r2) hp⟩
      · exact h.elim
    · exact h.elim
theorem ad_sub : Adq2 G E (rI0 fun i j => .int (i - j)) pSub := fun ρ H st x y v u Q hS rx ry h => by
  unfold pSub at h
  split at h
  · cases rx; cases ry
    exact ⟨_, _, rfl, rfl, post_val h hS (.int _)⟩
  · exact h.elim
theorem ad_mul : Adq2 G E (rI CMul fun i j => .int (i * j)) pMul := fun ρ H st x y v u Q hS rx ry h => by
  unfold pMul at h
  split at h
  · split at h
    · rename_i hz
      cases rx; cases ry
      exact ⟨_, _, rfl, rfl, hz, post_val h hS (.int _)⟩
    · exact h.elim
  · exact h.elim
theorem ad_div : Adq2 G E (rI CDivW fun i j => .int (i / j)) pDiv := fun ρ H st x y v u Q hS rx ry h => by
  unfold pDiv at h
  split at h
  · split at h
    · rename_i hz
      cases rx; cases ry
      refine ⟨_, _, rfl, rfl, wide_div (b := 200) hz.1 ?_ (by decide) (by decide), post_val h hS (.int _)⟩
      have h1 := hz.1
      have h2 := hz.2
      have e : (2 : Nat) ^ 200 = 1606938044258990275541962092341162602522202993782792835301376 := by decide
      rw [e]
      simp only [B200] at h2
      omega
    · exact h.elim
  · exact h.elim
theorem ad_mod : Adq2 G E (rI (fun _ j => 0 < j) fun i j => .int (i % j)) pMod := fun ρ H st x y v u Q hS rx ry h => by
  unfold pMod at h
  split at h
  · split at h
    · rename_i hz
      cases rx; cases ry
      exact ⟨_, _, rfl, rfl, hz, post_val h hS (.int _)⟩
    · exact h.elim
  · exact h.elim
theorem ad_pow : Adq2 G E (rI CPow fun i j => .int (i ^ j.toNat)) pPow := fun ρ H st x y v u Q hS rx ry h => by
  unfold pPow at h
  split at h
  · split at h
    · rename_i hz
      cases rx; cases ry
      exact ⟨_, _, rfl, rfl, ⟨hz.1, by omega, by have h1 := hz.2.2.1; have h2 := hz.2.2.2; simp only [B64] at h1 h2; omega⟩, post_val h hS (.int _)⟩
    · exact h.elim
  · exact h.elim
theorem ad_neg : Adq1 G E (rU fun i => .int (-i)) pNeg := fun ρ H st x v Q hS rx h => by
  unfold pNeg at h
  split at h
  · cases rx
    exact ⟨_, rfl, post_val h hS (.int _)⟩
  · exact h.elim
variable {a b : Expr} {fa fb : DE} {pos : Pos}
theorem ev_add (ha : EV X T E a fa) (hb : EV X T E b fb) : EV X T E (.BinOp a .Add b pos) (d2 pAdd fa fb) := ev_op op_addAll ad_add ha hb
theorem ev_sub (ha : EV X T E a fa) (hb : EV X T E b fb) : EV X T E (.BinOp a .Sub b pos) (d2 pSub fa fb) := ev_op op_sub ad_sub ha hb
theorem ev_mul (ha : EV X T E a fa) (hb : EV X T E b fb) : EV X T E (.BinOp a .Mult b pos) (d2 pMul fa fb) := ev_op op_mul ad_mul ha hb
theorem ev_div (ha : EV X T E a fa) (hb : EV X T E b fb) : EV X T E (.BinOp a .FloorDiv b pos) (d2 pDiv fa fb) := ev_op op_fdivW ad_div ha hb
theorem ev_mod (ha : EV X T E a fa) (hb : EV X T E b fb) : EV X T E (.BinOp a .Mod b pos) (d2 pMod fa fb) := ev_op op_mod ad_mod ha hb
theorem ev_pow (ha : EV X T E a fa) (hb : EV X T E b fb) : EV X T E (.BinOp a .Pow b pos) (d2 pPow fa fb) := ev_op op_pow ad_pow ha hb
theorem ev_neg (ha : EV X T E a fa) : EV X T E (.UnaryOp .USub a pos) (d1 pNeg fa) := ev_un un_neg ad_neg ha
end
end DN
set_option Elab.async false
set_option linter.all false
set_option maxRecDepth 100000
set_option maxHeartbeats 2000000
/-! DnExpr2: comparisons, tests, displays, subscripts, slices. -/
namespace DN
open PySem PySem.Spec PyProof.Rows L2

/-! ### data -/
mutual
def toD0 : PV → Option PyData
  | .non => some .none
  | .bl b => some (.bool b)
  | .int i => some (.int i)
  | .str x => some (.str x)
  | .tup l => (toD0s l).map .tuple
  | .lst l => (toD0s l).map .list
  | .scr l => (toD0s l).map .list
  | _ => none
def toD0s : List PV → Option (List PyData)
  | [] => some []
  | p :: ps => (toD0 p).bind fun d => (toD0s ps).map fun ds => d :: ds
end
def toD (p : PV) (st : Store) : Option PyData := match p with
  | .ref n => (match st[n]? with
    | some (.lst l) => (toD0s l).map .list
    | _ => none)
  | p => toD0 p
def kOf : PV → Option Key
  | .int i => some (.inl i)
  | .str x => some (.inr x)
  | _ => none
def kOfs : List PV → Option (List Key)
  | [] => some []
  | p :: ps => (kOf p).bind fun d => (kOfs ps).map fun ds => d :: ds
def look {κ α : Type} [DecidableEq κ] (es : List (κ × α)) (k : κ) : Option α := (es.find? fun e => decide (e.1 = k)).map (·.2)
/-- what a dict holds at a key; none: no dict, or a key of another sort -/
def dGet (d k : PV) (st : Store) : Option (Option PV) := match d with
  | .dK ks vs => (kOf k).map fun k => look (ks.zip vs) k
  | .dT ks vs => (match k with
    | .tup l => if isW l then none else (kOfs l).map fun k => look (ks.zip vs) k
    | _ => none)
  | .ref n => (match st[n]? with
    | some (.dK es) => (kOf k).map fun k => look es k
    | some (.dT es) => (match k with
      | .tup l => if isW l then none else (kOfs l).map fun k => look es k
      | _ => none)
    | _ => none)
  | _ => none

def pEqB (x y : PV) : M Bool := fun st => match x, y with
  | .int i, .int j => .ok (decide (i = j)) st
  | .str x, .str y => .ok (decide (x = y)) st
  | x, y => match toD x st, toD y st with
    | some d, some e => if SeqAt.shaped d = true ∧ SeqAt.shaped e = true then .ok (PyData.eqv d e) st else .fail
    | _, _ => .fail
def pEq (x y : PV) : M PV := fun st => (pEqB x y st).bind fun b st => .ok (.bl b) st
def pNe (x y : PV) : M PV := fun st => (pEqB x y st).bind fun b st => .ok (.bl (!b)) st
def pLtI (f : Int → Int → Bool) (x y : PV) : M PV := fun st => match x, y with
  | .int i, .int j => .ok (.bl (f i j)) st
  | _, _ => .fail
abbrev pLt : PV → PV → M PV := pLtI fun i j => decide (i < j)
abbrev pLe : PV → PV → M PV := pLtI fun i j => decide (i ≤ j)
abbrev pGt : PV → PV → M PV := pLtI fun i j => decide (j < i)
abbrev pGe : PV → PV → M PV := pLtI fun i j => decide (j ≤ i)
def isNon : PV → Bool
  | .non => true
  | _ => false
def pIsB (x y : PV) : M Bool := fun st => match y with
  | .non => .ok (isNon x) st
  | .bl b => (match x with
    | .bl a => .ok (decide (a = b)) st
    | _ => .fail)
  | _ => .fail
def pIs (x y : PV) : M PV := fun st => (pIsB x y st).bind fun b st => .ok (.bl b) st
def pIsNot (x y : PV) : M PV := fun st => (pIsB x y st).bind fun b st => .ok (.bl (!b)) st
def pInB (x y : PV) : M Bool := fun st => match dGet y x st with
  | some o => .ok o.isSome st
  | none => match x, y with
    | .str a, .str b => .ok (!(Builtin.Str.occurrences b a 0 b.length 1).isEmpty) st
    | x, y => match toD x st, toD y st with
      | some d, some (.list ds) => if SeqAt.shaped d = true ∧ SeqAt.shaped (.list ds) = true then .ok (ds.any fun z => PyData.eqv z d) st else .fail
      | some d, some (.tuple ds) => if SeqAt.shaped d = true ∧ SeqAt.shaped (.tuple ds) = true then .ok (ds.any fun z => PyData.eqv z d) st else .fail
      | _, _ => .fail
def pIn (x y : PV) : M PV := fun st => (pInB x y st).bind fun b st => .ok (.bl b) st
def pNotIn (x y : PV) : M PV := fun st => (pInB x y st).bind fun b st => .ok (.bl (!b)) st

section
variable {X : Cx} {T : TR} {E : XK} {G : DG} {ρ : List Addr} {H : Hp} {σ : St} {aσ : AE} {st : Store}
mutual
theorem toD0_dp : ∀ (p : PV) (d : PyData) (v : V), toD0 p = some d → Rl G ρ H p v → Dp G.K H v d
  | .non, d, v, h, r => by
    simp only [toD0, Option.some.injEq] at h
    subst h; cases r; exact .non
  | .bl b, d, v, h, r => by
    simp only [toD0, Option.some.injEq] at h
    subst h; cases r; exact .bl b
  | .int i, d, v, h, r => by
    simp only [toD0, Option.some.injEq] at h
    subst h; cases r; exact .int i
  | .str x, d, v, h, r => by
    simp only [toD0, Option.some.injEq] at h
    subst h; cases r; exact .str x
  | .tup l, d, v, h, r => by
    simp only [toD0] at h
    obtain ⟨ds, e, rfl⟩ := Option.map_eq_some_iff.mp h
    cases r with
    | tup q ra => exact .tup q.sq (toD0s_dp l ds _ e ra)
  | .lst l, d, v, h, r => by
    simp only [toD0] at h
    obtain ⟨ds, e, rfl⟩ := Option.map_eq_some_iff.mp h
    cases r with
    | lst q ra => exact .lst q.sq (toD0s_dp l ds _ e ra)
  | .scr l, d, v, h, r => by
    simp only [toD0] at h
    obtain ⟨ds, e, rfl⟩ := Option.map_eq_some_iff.mp h
    cases r with
    | scr q ra => exact .lst (q.elim (fun q => q.sq) fun q => q H) (toD0s_dp l ds _ e ra)
  | .dK _ _, _, _, h, _ => by simp [toD0] at h
  | .dT _ _, _, _, h, _ => by simp [toD0] at h
  | .ref _, _, _, h, _ => by simp [toD0] at h
  | .con _, _, _, h, _ => by simp [toD0] at h
  | .ty _, _, _, h, _ => by simp [toD0] at h
theorem toD0s_dp : ∀ (ps : List PV) (ds : List PyData) (vs : List V), toD0s ps = some ds → RlAll G ρ H ps vs → DpAll G.K H vs ds
  | [], ds, vs, h, r => by
    simp only [toD0s, Option.some.injEq] at h
    subst h; cases r; exact .nil
  | p :: ps, ds, vs, h, r => by
    simp only [toD0s] at h
    obtain ⟨d, e1, h⟩ := Option.bind_eq_some_iff.mp h
    obtain ⟨ds', e2, rfl⟩ := Option.map_eq_some_iff.mp h
    cases r with
    | cons r1 r2 => exact .cons (toD0_dp p d _ e1 r1) (toD0s_dp ps ds' _ e2 r2)
end
theorem toD_dp {p : PV} {d : PyData} {v : V} (hS : RlS G ρ H st) (h : toD p st = some d) (r : Rl G ρ H p v) : Dp G.K H v d := by
  unfold toD at h
  split at h
  · split at h
    · rename_i n _ l e
      obtain ⟨ds, e2, rfl⟩ := Option.map_eq_some_iff.mp h
      cases r with
      | ref q =>
        cases hS.ref q e with
        | lst h r => exact .lst (.inl (.inl h)) (toD0s_dp l ds _ e2 r)
    · cases h
  · exact toD0_dp p d v h r
theorem kOf_v {p : PV} {k : Key} {v : V} (h : kOf p = some k) (r : Rl G ρ H p v) : v = kV k := by
  unfold kOf at h
  split at h
  · cases h; cases r; rfl
  · cases h; cases r; rfl
  · cases h
theorem kOfs_v : ∀ {ps : List PV} {ks : List Key} {vs : List V}, kOfs ps = some ks → RlAll G ρ H ps vs → vs = ks.map kV
  | [], ks, vs, h, r => by
    simp only [kOfs, Option.some.injEq] at h
    subst h; cases r; rfl
  | p :: ps, ks, vs, h, r => by
    simp only [kOfs] at h
    obtain ⟨d, e1, h⟩ := Option.bind_eq_some_iff.mp h
    obtain ⟨ds', e2, rfl⟩ := Option.map_eq_some_iff.mp h
    cases r with
    | cons r1 r2 => rw [kOf_v e1 r1, kOfs_v e2 r2]; rfl
/-- a look-up here and there -/
def RlOp (G : DG) (ρ : List Addr) (H : Hp) : Option PV → Option V → Prop
  | some p, some v => Rl G ρ H p v
  | none, none => True
  | _, _ => False
theorem look_val {κ : Type} [DecidableEq κ] (k : κ) : ∀ (es : List (κ × PV)) (kvs : List (κ × V)), es.map (·.1) = kvs.map (·.1) → RlAll G ρ H (es.map (·.2)) (kvs.map (·.2)) → RlOp G ρ H (look es k) (valV kvs k)
  | [], [], _, _ => trivial
  | [], _ :: _, h, _ => by cases h
  | _ :: _, [], h, _ => by cases h
  | (a, p) :: es, (b, v) :: kvs, h, r => by
    simp only [List.map_cons, List.cons.injEq] at h
    obtain ⟨rfl, h⟩ := h
    simp only [List.map_cons] at r
    cases r with
    | cons r1 r2 =>
      have ih := look_val k es kvs h r2
      by_cases e : a = k
      · simp only [look, valV, List.find?_cons, e, decide_true, Option.map_some]
        exact r1
      · simp only [look, valV, List.find?_cons, e, decide_false] at ih ⊢
        exact ih
theorem zip_fst {κ : Type} : ∀ (ks : List κ) (vs : List PV), ks.length = vs.length → (ks.zip vs).map (·.1) = ks ∧ (ks.zip vs).map (·.2) = vs
  | [], [], _ => ⟨rfl, rfl⟩
  | [], _ :: _, h => by cases h
  | _ :: _, [], h => by cases h
  | k :: ks, v :: vs, h => by
    have ih := zip_fst ks vs (by simpa using h)
    simp [ih.1, ih.2]
theorem kOfs_f {l : List PV} {ks : List Key} (h : kOfs l = some ks) : isF l = false := by
  unfold isF
  split
  · simp [kOfs, kOf] at h
  · rfl
theorem tv_key {l : List PV} {ks : List Key} {b : V} (w : isW l = false) (h : kOfs l = some ks) (r : Rl G ρ H (.tup l) b) : ∃ a, b = .ref a ∧ H a = some (.tup (ks.map kV)) := by
  cases r with
  | tup q ra =>
    rw [kOfs_v h ra, w, kOfs_f h] at q
    rcases q with ⟨o, _, q⟩ | ⟨q, _⟩
    · exact ⟨_, rfl, q⟩
    · cases q
theorem dGet_rl {d k : PV} {o : Option PV} {x y : V} (hS : RlS G ρ H st) (h : dGet d k st = some o) (rd : Rl G ρ H d x) (rk : Rl G ρ H k y) : ∃ a o', x = .ref a ∧ DGet H a y o' ∧ RlOp G ρ H o o' := by
  unfold dGet at h
  split at h
  · rename_i ks vs
    obtain ⟨k1, e1, rfl⟩ := Option.map_eq_some_iff.mp h
    cases rd with
    | @dK a _ _ kvs hr hn hk ra =>
      have z := zip_fst ks vs (by rw [hk, List.length_map, ra.length, List.length_map])
      exact ⟨a, _, rfl, .inl ⟨kvs, k1, hr, kOf_v e1 rk, rfl⟩, look_val k1 _ kvs (by rw [z.1, hk]) (by rw [z.2]; exact ra)⟩
  · rename_i ks vs
    split at h
    · split at h
      · cases h
      · rename_i hw
        obtain ⟨k1, e1, rfl⟩ := Option.map_eq_some_iff.mp h
        cases rd with
        | @dT a _ _ kvs hr hn hk ra =>
          have z := zip_fst ks vs (by rw [hk, List.length_map, ra.length, List.length_map])
          obtain ⟨b, rfl, hb⟩ := tv_key (by simpa using hw) e1 rk
          exact ⟨a, _, rfl, .inr ⟨kvs, k1, b, hr, rfl, hb, rfl⟩, look_val k1 _ kvs (by rw [z.1, hk]) (by rw [z.2]; exact ra)⟩
    · cases h
  · split at h
    · rename_i n _ es e
      obtain ⟨k1, e1, rfl⟩ := Option.map_eq_some_iff.mp h
      cases rd with
      | @ref _ a q =>
        cases hS.ref q e with
        | @dK _ _ kvs hh hk ra => exact ⟨a, _, rfl, .inl ⟨kvs, k1, .inl hh, kOf_v e1 rk, rfl⟩, look_val k1 es kvs hk ra⟩
    · rename_i n _ es e
      split at h
      · split at h
        · cases h
        · rename_i hw
          obtain ⟨k1, e1, rfl⟩ := Option.map_eq_some_iff.mp h
          cases rd with
          | @ref _ a q =>
            cases hS.ref q e with
            | @dT _ _ kvs hh hk ra =>
              obtain ⟨b, rfl, hb⟩ := tv_key (by simpa using hw) e1 rk
              exact ⟨a, _, rfl, .inr ⟨kvs, k1, b, .inl hh, rfl, hb, rfl⟩, look_val k1 es kvs hk ra⟩
      · cases h
    · cases h
  · cases h
end
end DN
set_option Elab.async false
set_option linter.all false
set_option maxRecDepth 100000
set_option maxHeartbeats 2000000
/-! DnExpr3: comparisons, tests, displays, subscripts, slices: the rules. -/
namespace DN
open PySem PySem.Spec PyProof.Rows L2

section
variable {X : Cx} {T : TR} {E : XK} {G : DG} {ρ : List Addr} {H : Hp} {σ : St} {aσ : AE} {st : Store}
variable {a b c : Expr} {fa fb fc : DE} {pos : Pos}
theorem pst_map {α β : Type} {K : β → Store → List Addr → Hp → Prop} {r : Res α} {g : α → β} (h : Pst G E ρ H K (r.bind fun a st => .ok (g a) st)) : Pst G E ρ H (fun a st => K (g a) st) r := by
  cases r with
  | ok a st => exact h
  | exc c w st => exact h
  | fail => exact h

/-! ### == -/
def rEqA (K : PySem.W.Frag) : R2 := fun x y H Q => rEq x y H Q ∨ rEqD K x y H Q
def rNeA (K : PySem.W.Frag) : R2 := fun x y H Q => rNe x y H Q ∨ rNeD K x y H Q
theorem op_eqA (hu : X.A.units + 65 < cLine) : OpR X (compareOp .Eq) (rEqA X.K) := op_eq.or (op_eqD (by omega))
theorem op_neA (hu : X.A.units + 65 < cLine) : OpR X (compareOp .NotEq) (rNeA X.K) := op_ne.or (op_neD (by omega))
theorem eqB_rl {x y : PV} {v u : V} {W : Bool → Prop} (hS : RlS G ρ H st) (rx : Rl G ρ H x v) (ry : Rl G ρ H y u) (h : Pst G E ρ H (fun b st' _ _ => W b) (pEqB x y st)) :
    (scal v u = true ∧ W (decide (v = u))) ∨ ∃ d e, Dp G.K H v d ∧ Dp G.K H u e ∧ SeqAt.shaped d = true ∧ SeqAt.shaped e = true ∧ W (PyData.eqv d e) := by
  unfold pEqB at h
  split at h
  · rename_i i j
    cases rx; cases ry
    have h := h.ret hS
    refine .inl ⟨rfl, ?_⟩
    have e : decide (V.int i = V.int j) = decide (i = j) := by rw [Bool.eq_iff_iff]; simp
    rw [e]; exact h
  · rename_i i j
    cases rx; cases ry
    have h := h.ret hS
    refine .inl ⟨rfl, ?_⟩
    have e : decide (V.str i = V.str j) = decide (i = j) := by rw [Bool.eq_iff_iff]; simp
    rw [e]; exact h
  · split at h
    · rename_i d e e1 e2
      split at h
      · rename_i hs
        exact .inr ⟨d, e, toD_dp hS e1 rx, toD_dp hS e2 ry, hs.1, hs.2, h.ret hS⟩
      · exact h.elim
    · exact h.elim
theorem eqB_pure {x y : PV} {b : Bool} {st' : Store} (h : pEqB x y st = .ok b st') : st' = st := by
  unfold pEqB at h
  split at h
  · cases h; rfl
  · cases h; rfl
  · split at h
    · split at h
      · cases h; rfl
      · cases h
    · cases h
/-- a test that leaves the store as it is -/
theorem pst_still {K : Bool → Store → List Addr → Hp → Prop} {r : Res Bool} (hS : RlS G ρ H st) (hp : ∀ b st', r = .ok b st' → st' = st) (hx : ∀ c w s, r ≠ .exc c w s) (h : Pst G E ρ H K r) : Pst G E ρ H (fun b _ _ _ => K b st ρ H) r := by
  cases r with
  | ok b st' =>
    have e := hp b st' rfl
    subst e
    exact fun _ _ _ _ => h ρ H Ext.refl hS
  | exc c w s => exact (hx c w s rfl).elim
  | fail => exact h
theorem eqB_exc {x y : PV} : ∀ c w s, pEqB x y st ≠ .exc c w s := fun c w s h => by
  unfold pEqB at h
  split at h
  · cases h
  · cases h
  · split at h
    · split at h <;> cases h
    · cases h
theorem ad_eq : Adq2 G E (rEqA G.K) pEq := fun ρ H st x y v u Q hS rx ry h => by
  have h := pst_still hS (fun b st' => eqB_pure) eqB_exc (pst_map h)
  rcases eqB_rl (W := fun b => ∀ v, Rl G ρ H (.bl b) v → Q v H) hS rx ry h with ⟨s, q⟩ | ⟨d, e, h1, h2, h3, h4, q⟩
  · exact .inl ⟨s, q _ (.bl _)⟩
  · exact .inr ⟨d, e, h1, h2, h3, h4, q _ (.bl _)⟩
theorem ad_ne : Adq2 G E (rNeA G.K) pNe := fun ρ H st x y v u Q hS rx ry h => by
  have h := pst_still hS (fun b st' => eqB_pure) eqB_exc (pst_map h)
  rcases eqB_rl (W := fun b => ∀ v, Rl G ρ H (.bl (!b)) v → Q v H) hS rx ry h with ⟨s, q⟩ | ⟨d, e, h1, h2, h3, h4, q⟩
  · exact .inl ⟨s, q _ (.bl _)⟩
  · exact .inr ⟨d, e, h1, h2, h3, h4, q _ (.bl _)⟩
theorem ev_eq (hu : X.A.units + 65 < cLine) (ha : EV X T E a fa) (hb : EV X T E b fb) : EV X T E (.Compare a [.Eq] [b] pos) (d2 pEq fa fb) := ev_cmp (op_eqA hu) ad_eq (nomark _) ha hb
theorem ev_ne (hu : X.A.units + 65 < cLine) (ha : EV X T E a fa) (hb : EV X T E b fb) : EV X T E (.Compare a [.NotEq] [b] pos) (d2 pNe fa fb) := ev_cmp (op_neA hu) ad_ne (nomark _) ha hb

/-! ### < <= > >= -/
theorem ad_cmpI (f : Int → Int → Bool) : Adq2 G E (rI0 fun i j => .bl (f i j)) (pLtI f) := fun ρ H st x y v u Q hS rx ry h => by
  unfold pLtI at h
  split at h
  · cases rx; cases ry
    exact ⟨_, _, rfl, rfl, post_val h hS (.bl _)⟩
  · exact h.elim
theorem ev_lt (ha : EV X T E a fa) (hb : EV X T E b fb) : EV X T E (.Compare a [.Lt] [b] pos) (d2 pLt fa fb) := ev_cmp op_lt (ad_cmpI _) (nomark _) ha hb
theorem ev_le (ha : EV X T E a fa) (hb : EV X T E b fb) : EV X T E (.Compare a [.LtE] [b] pos) (d2 pLe fa fb) := ev_cmp op_le (ad_cmpI _) (nomark _) ha hb
theorem ev_gt (ha : EV X T E a fa) (hb : EV X T E b fb) : EV X T E (.Compare a [.Gt] [b] pos) (d2 pGt fa fb) := ev_cmp op_gt (ad_cmpI _) (nomark _) ha hb
theorem ev_ge (ha : EV X T E a fa) (hb : EV X T E b fb) : EV X T E (.Compare a [.GtE] [b] pos) (d2 pGe fa fb) := ev_cmp op_ge (ad_cmpI _) (nomark _) ha hb
/-- a op b op' c -/
def dChain (d d' : PV → PV → M PV) (f g h : DE) : DE := fun σ st => (f σ st).bind fun x st => (g σ st).bind fun y st => (d x y st).bind fun p st => (tB p st).bind fun k st => if k then (h σ st).bind fun z st => d' y z st else .ok (.bl false) st
theorem chain_read {f g : Int → Int → Bool} {Q : VK} (h : Tv G E (dChain (pLtI f) (pLtI g) fa fb fc) σ H Q) : tChain (rI0 fun i j => .bl (f i j)) (rI0 fun i j => .bl (g i j)) (Tv G E fa) (Tv G E fb) (Tv G E fc) σ H Q := by
  obtain ⟨ρ, aσ, st, hE, hS, h⟩ := h
  refine tv_bind hE hS h fun ρ1 H1 x v st1 _ s1 e1 rx h => tv_bind e1 s1 h fun ρ2 H2 y u st2 x2 s2 e2 ry h => ?_
  have rx := rx.ext x2
  cases x with
  | int i =>
    cases y with
    | int j =>
      cases rx; cases ry
      refine ⟨i, j, rfl, rfl, f i j, rfl, ?_⟩
      have h : Pst (G) E ρ2 H2 (KV (G) Q) (if f i j = true then (fc aσ st2).bind fun z st => pLtI g (.int j) z st else .ok (.bl false) st2) := h
      cases q : f i j with
      | true =>
        refine ite_tt ?_
        rw [q, if_pos rfl] at h
        refine tv_bind e2 s2 h fun ρ3 H3 z w st3 x3 s3 e3 rz h => ?_
        exact ad_cmpI g ρ3 H3 st3 (.int j) z (.int j) w Q s3 (.int j) rz h
      | false =>
        refine ite_ff ?_
        rw [q, if_neg Bool.false_ne_true] at h
        exact post_val h s2 (.bl false)
    | _ => exact h.elim
  | _ => exact h.elim

theorem ev_chainI {op op' : CmpOp} {f g : Int → Int → Bool} (ho : OpR X (compareOp op) (rI0 fun i j => .bl (f i j))) (ho' : OpR X (compareOp op') (rI0 fun i j => .bl (g i j))) (ha : EV X T E a fa) (hb : EV X T E b fb) (hc : EV X T E c fc)
    (hm : lastMarks [op, op'] [b, c] = false := by with_unfolding_all rfl) : EV X T E (.Compare a [op, op'] [b, c] pos) (dChain (pLtI f) (pLtI g) fa fb fc) := pe_imp (pe_chain ho ho' ha hb hc hm) fun σ H Q h => chain_read h
/-! ### is -/
theorem isNon_v {x : PV} {v : V} (r : Rl G ρ H x v) : decide (v = .non) = isNon x := by cases r <;> rfl
def rIs : R2 := fun x y H Q => (y = .non ∧ Q (.bl (decide (x = .non))) H) ∨ rIsB x y H Q
def rIsNot : R2 := fun x y H Q => (y = .non ∧ Q (.bl (!decide (x = .non))) H) ∨ rNotB x y H Q
theorem ad_is : Adq2 G E rIs pIs := fun ρ H st x y v u Q hS rx ry h => by
  unfold pIs pIsB at h
  split at h
  · cases ry
    refine .inl ⟨rfl, ?_⟩
    rw [isNon_v rx]
    exact post_val h hS (.bl _)
  · split at h
    · cases rx; cases ry
      exact .inr ⟨_, _, rfl, rfl, post_val h hS (.bl _)⟩
    · exact h.elim
  · exact h.elim
theorem ad_isNot : Adq2 G E rIsNot pIsNot := fun ρ H st x y v u Q hS rx ry h => by
  unfold pIsNot pIsB at h
  split at h
  · cases ry
    refine .inl ⟨rfl, ?_⟩
    rw [isNon_v rx]
    exact post_val h hS (.bl _)
  · split at h
    · cases rx; cases ry
      exact .inr ⟨_, _, rfl, rfl, post_val h hS (.bl _)⟩
    · exact h.elim
  · exact h.elim
theorem ev_is (ha : EV X T E a fa) (hb : EV X T E b fb) : EV X T E (.Compare a [.Is] [b] pos) (d2 pIs fa fb) := ev_cmp (op_isN.or op_isBl) ad_is (nomark _) ha hb
theorem ev_isNot (ha : EV X T E a fa) (hb : EV X T E b fb) : EV X T E (.Compare a [.IsNot] [b] pos) (d2 pIsNot fa fb) := ev_cmp (op_notN.or op_notBl) ad_isNot (nomark _) ha hb

/-! ### in -/
def rInT (K : PySem.W.Frag) (n : Bool) : R2 := fun x y H Q => ∃ d ds, Dp K H x d ∧ Dp K H y (.tuple ds) ∧ SeqAt.shaped d = true ∧ SeqAt.shaped (.tuple ds) = true ∧ Q (.bl (if n then !ds.any fun z => PyData.eqv z d else ds.any fun z => PyData.eqv z d)) H
theorem op_inT (hu : X.A.units + 65 < cLine) : OpR X (compareOp .In) (rInT X.K false) := by
  intro pins s σ H x y v u Q I rx ry h
  obtain ⟨d, ds, hd, he, sd, se, q⟩ := h
  obtain ⟨as, r1⟩ := Dp.reads I d x v hd rx
  obtain ⟨bs, r2⟩ := Dp.reads I (.tuple ds) y u he ry
  exact SeqAt.in_tuple_reads r2 r1 (SeqAt.canLay_of_shaped se) (SeqAt.canLay_of_shaped sd) (room_in_shaped sd hu) ⟨.bl _, H, I, rfl, q⟩
theorem op_notInT (hu : X.A.units + 65 < cLine) : OpR X (compareOp .NotIn) (rInT X.K true) := by
  intro pins s σ H x y v u Q I rx ry h
  obtain ⟨d, ds, hd, he, sd, se, q⟩ := h
  obtain ⟨as, r1⟩ := Dp.reads I d x v hd rx
  obtain ⟨bs, r2⟩ := Dp.reads I (.tuple ds) y u he ry
  exact SeqAt.notIn_tuple_reads r2 r1 (SeqAt.canLay_of_shaped se) (SeqAt.canLay_of_shaped sd) (room_in_shaped sd hu) ⟨.bl _, H, I, rfl, q⟩
def rInK (n : Bool) : R2 := fun y x H Q => ∃ a o, x = .ref a ∧ DGet H a y o ∧ Q (.bl (if n then !o.isSome else o.isSome)) H
theorem op_inK (hu : X.A.units + 65 < cLine) : OpR X (compareOp .In) (rInK false) := by
  intro pins s σ H y x u v Q I ry rx h
  obtain ⟨a, o, rfl, g, q⟩ := h
  cases rx
  exact d_in (by omega) I g ry fun s' I' => ⟨.bl _, H, I', rfl, q⟩
theorem op_notInK (hu : X.A.units + 65 < cLine) : OpR X (compareOp .NotIn) (rInK true) := by
  intro pins s σ H y x u v Q I ry rx h
  obtain ⟨a, o, rfl, g, q⟩ := h
  cases rx
  exact d_notIn (by omega) I g ry fun s' I' => ⟨.bl _, H, I', rfl, q⟩
def rInStr (n : Bool) : R2 := fun x y H Q => ∃ i j, x = .str i ∧ y = .str j ∧ Q (.bl (if n then !(!(Builtin.Str.occurrences j i 0 j.length 1).isEmpty) else !(Builtin.Str.occurrences j i 0 j.length 1).isEmpty)) H
def rInA (K : PySem.W.Frag) (n : Bool) : R2 := fun x y H Q => ((rInK n x y H Q ∨ rInStr n x y H Q) ∨ (∃ d ds, Dp K H x d ∧ Dp K H y (.list ds) ∧ SeqAt.shaped d = true ∧ SeqAt.shaped (.list ds) = true ∧ Q (.bl (if n then !ds.any fun z => PyData.eqv z d else ds.any fun z => PyData.eqv z d)) H)) ∨ rInT K n x y H Q
theorem op_inA (hu : X.A.units + 65 < cLine) : OpR X (compareOp .In) (rInA X.K false) := (((op_inK hu).or op_in_str).or (op_inD hu)).or (op_inT hu)
theorem op_notInA (hu : X.A.units + 65 < cLine) : OpR X (compareOp .NotIn) (rInA X.K true) := (((op_notInK hu).or op_notin_str).or (op_notInD hu)).or (op_notInT hu)
theorem RlOp.some_eq {o : Option PV} {o' : Option V} (r : RlOp G ρ H o o') : o'.isSome = o.isSome := by
  cases o <;> cases o' <;> first | rfl | exact r.elim
theorem inB_rl (n : Bool) {x y : PV} {v u : V} {W : Bool → Prop} {Q : VK} (hW : ∀ b, W b → Q (.bl (if n then !b else b)) H) (hS : RlS G ρ H st) (rx : Rl G ρ H x v) (ry : Rl G ρ H y u) (h : Pst G E ρ H (fun b _ _ _ => W b) (pInB x y st)) : rInA G.K n v u H Q := by
  unfold pInB at h
  split at h
  · rename_i o e
    obtain ⟨a, o', rfl, g, r⟩ := dGet_rl hS e ry rx
    refine .inl (.inl (.inl ⟨a, o', rfl, g, ?_⟩))
    rw [r.some_eq]
    exact hW _ (h.ret hS)
  · split at h
    · cases rx; cases ry
      exact .inl (.inl (.inr ⟨_, _, rfl, rfl, hW _ (h.ret hS)⟩))
    · split at h
      · rename_i d ds e1 e2
        split at h
        · rename_i hs
          exact .inl (.inr ⟨d, ds, toD_dp hS e1 rx, toD_dp hS e2 ry, hs.1, hs.2, hW _ (h.ret hS)⟩)
        · exact h.elim
      · rename_i d ds e1 e2
        split at h
        · rename_i hs
          exact .inr ⟨d, ds, toD_dp hS e1 rx, toD_dp hS e2 ry, hs.1, hs.2, hW _ (h.ret hS)⟩
        · exact h.elim
      · exact h.elim
theorem inB_pure {x y : PV} {b : Bool} {st' : Store} (h : pInB x y st = .ok b st') : st' = st := by
  unfold pInB at h
  split at h
  · cases h; rfl
  · split at h
    · cases h; rfl
    · split at h
      · split at h <;> cases h; rfl
      · split at h <;> cases h; rfl
      · cases h
theorem inB_exc {x y : PV} : ∀ c w s, pInB x y st ≠ .exc c w s := fun c w s h => by
  unfold pInB at h
  split at h
  · cases h
  · split at h
    · cases h
    · split at h
      · split at h <;> cases h
      · split at h <;> cases h
      · cases h
theorem ad_in : Adq2 G E (rInA G.K false) pIn := fun ρ H st x y v u Q hS rx ry h =>
  inB_rl false (W := fun b => ∀ v, Rl G ρ H (.bl b) v → Q v H) (fun b h => h _ (.bl b)) hS rx ry (pst_still hS (fun b st' => inB_pure) inB_exc (pst_map h))
theorem ad_notIn : Adq2 G E (rInA G.K true) pNotIn := fun ρ H st x y v u Q hS rx ry h =>
  inB_rl true (W := fun b => ∀ v, Rl G ρ H (.bl (!b)) v → Q v H) (fun b h => h _ (.bl _)) hS rx ry (pst_still hS (fun b st' => inB_pure) inB_exc (pst_map h))
theorem ev_in (hu : X.A.units + 65 < cLine) (ha : EV X T E a fa) (hb : EV X T E b fb) (hm : behindInMarks .In b = false := by rfl) : EV X T E (.Compare a [.In] [b] pos) (d2 pIn fa fb) := ev_cmp (op_inA hu) ad_in hm ha hb
theorem ev_notIn (hu : X.A.units + 65 < cLine) (ha : EV X T E a fa) (hb : EV X T E b fb) (hm : behindInMarks .NotIn b = false := by rfl) : EV X T E (.Compare a [.NotIn] [b] pos) (d2 pNotIn fa fb) := ev_cmp (op_notInA hu) ad_notIn hm ha hb
end
end DN
set_option Elab.async false
set_option linter.all false
set_option maxRecDepth 100000
set_option maxHeartbeats 2000000
/-! DnExpr4: tests, displays, subscripts, slices. -/
namespace DN
open PySem PySem.Spec PyProof.Rows L2

/-! ### readings -/
def pTruth (p : PV) : M Bool := fun st => match p with
  | .non => .ok false st
  | .bl b => .ok b st
  | .int i => .ok (i != 0) st
  | .str x => if x.length ≤ SZ then .ok ((x.length : Int) != 0) st else .fail
  | .tup l => .ok (!l.isEmpty) st
  | .ref n => (match st[n]? with
    | some (.lst l) => .ok (!l.isEmpty) st
    | some (.dK es) => .ok (!es.isEmpty) st
    | _ => .fail)
  | .lst l => .ok (!l.isEmpty) st
  | _ => .fail
def bTruth (f : DE) : DB := fun σ st => (f σ st).bind pTruth
def mTup (l : List PV) : M PV := fun st => if l.length ≤ SZ then .ok (.tup l) st else .fail
def mLst (l : List PV) : M PV := fun st => if l.length ≤ SZ then .ok (.lst l) st else .fail
/-- a list that will be changed -/
def mLstR (l : List PV) : M PV := fun st => if l.length ≤ SZ then .ok (.ref st.length) (st ++ [.lst l]) else .fail
def pIx (x y : PV) : M PV := fun st => match dGet x y st with
  | some (some v) => .ok v st
  | some none => .fail
  | none => match y with
    | .int i => (match x with
      | .tup l => (match atI l i with
        | some v => .ok v st
        | none => .fail)
      | .str z => if z.length ≤ SZ then (match atI z.cps.toList i with
        | some c => .ok (.str ⟨#[c]⟩) st
        | none => .fail) else .fail
      | x => match asR x st with
        | some l => (match atI l i with
          | some v => .ok v st
          | none => .fail)
        | none => .fail)
    | _ => .fail
def cut {α : Type} (xs : List α) (lo hi : Option Int) : List α := (xs.drop (HT.sIx xs.length 0 lo)).take (HT.sIx xs.length xs.length hi - HT.sIx xs.length 0 lo)
def pSl (x : PV) (lo hi : Option Int) : M PV := fun st => match x with
  | .tup l => .ok (.tup (cut l lo hi)) st
  | .str z => if z.length ≤ SZ then .ok (.str (cutS z lo hi)) st else .fail
  | x => match asL x st with
    | some l => .ok (.lst (cut l lo hi)) st
    | none => .fail
abbrev DO := AE → M (Option Int)
def oNone : DO := fun _ st => .ok none st
def oSome (f : DE) : DO := fun σ st => (f σ st).bind fun p st => match p with
  | .int i => .ok (some i) st
  | _ => .fail
def dSl (f : DE) (g h : DO) : DE := fun σ st => (f σ st).bind fun x st => (g σ st).bind fun lo st => (h σ st).bind fun hi st => pSl x lo hi st

section
variable {X : Cx} {T : TR} {E : XK} {G : DG} {ρ : List Addr} {H : Hp} {σ : St} {aσ : AE} {st : Store}
variable {e a b c : Expr} {fa fb fc f : DE} {g h : DB} {pos : Pos}
/-! ### tests -/
theorem tv_tB {W : Bool → Hp → Prop} (q : Tb G E (bVal f) σ H W) : L2.tB (Tv G E f) σ H W := by
  obtain ⟨ρ, aσ, st, hE, hS, h⟩ := q
  refine tv_bind hE hS h fun ρ1 H1 x v st1 _ s1 _ rx h => ?_
  cases x with
  | bl b => cases rx; exact ⟨b, rfl, h.ret s1⟩
  | _ => exact h.elim
theorem eb_val (h : EV X T E e f) (he : ∀ whole, isTrue e X.env whole = (do let v ← whole; standAt e.pos; holding [v] (truthy v)) := by intro _; rfl) : EB X T E e (bVal f) := pt_imp (pt_val h he) fun σ H W q => tv_tB q
theorem eb_cmp {op : CmpOp} {r : R2} {d : PV → PV → M PV} (ho : OpR X (compareOp op) r) (ad : Adq2 (gOf X T) E r d) (hm : behindInMarks op b = false) (ha : EV X T E a fa) (hb : EV X T E b fb) : EB X T E (.Compare a [op] [b] pos) (bVal (d2 d fa fb)) :=
  pt_imp (pt_cmpR ho ha hb hm) fun σ H W q => tv2 ad (tv_tB q)
theorem eb_eq (hu : X.A.units + 65 < cLine) (ha : EV X T E a fa) (hb : EV X T E b fb) : EB X T E (.Compare a [.Eq] [b] pos) (bVal (d2 pEq fa fb)) := eb_cmp (op_eqA hu) ad_eq (nomark _) ha hb
theorem eb_ne (hu : X.A.units + 65 < cLine) (ha : EV X T E a fa) (hb : EV X T E b fb) : EB X T E (.Compare a [.NotEq] [b] pos) (bVal (d2 pNe fa fb)) := eb_cmp (op_neA hu) ad_ne (nomark _) ha hb
theorem eb_lt (ha : EV X T E a fa) (hb : EV X T E b fb) : EB X T E (.Compare a [.Lt] [b] pos) (bVal (d2 pLt fa fb)) := eb_cmp op_lt (ad_cmpI _) (nomark _) ha hb
theorem eb_le (ha : EV X T E a fa) (hb : EV X T E b fb) : EB X T E (.Compare a [.LtE] [b] pos) (bVal (d2 pLe fa fb)) := eb_cmp op_le (ad_cmpI _) (nomark _) ha hb
theorem eb_gt (ha : EV X T E a fa) (hb : EV X T E b fb) : EB X T E (.Compare a [.Gt] [b] pos) (bVal (d2 pGt fa fb)) := eb_cmp op_gt (ad_cmpI _) (nomark _) ha hb
theorem eb_ge (ha : EV X T E a fa) (hb : EV X T E b fb) : EB X T E (.Compare a [.GtE] [b] pos) (bVal (d2 pGe fa fb)) := eb_cmp op_ge (ad_cmpI _) (nomark _) ha hb
theorem eb_is (ha : EV X T E a fa) (hb : EV X T E b fb) : EB X T E (.Compare a [.Is] [b] pos) (bVal (d2 pIs fa fb)) := eb_cmp (op_isN.or op_isBl) ad_is (nomark _) ha hb
theorem eb_isNot (ha : EV X T E a fa) (hb : EV X T E b fb) : EB X T E (.Compare a [.IsNot] [b] pos) (bVal (d2 pIsNot fa fb)) := eb_cmp (op_notN.or op_notBl) ad_isNot (nomark _) ha hb
theorem eb_in (hu : X.A.units + 65 < cLine) (ha : EV X T E a fa) (hb : EV X T E b fb) (hm : behindInMarks .In b = false := by rfl) : EB X T E (.Compare a [.In] [b] pos) (bVal (d2 pIn fa fb)) := eb_cmp (op_inA hu) ad_in hm ha hb
theorem eb_notIn (hu : X.A.units + 65 < cLine) (ha : EV X T E a fa) (hb : EV X T E b fb) (hm : behindInMarks .NotIn b = false := by rfl) : EB X T E (.Compare a [.NotIn] [b] pos) (bVal (d2 pNotIn fa fb)) := eb_cmp (op_notInA hu) ad_notIn hm ha hb
theorem eb_chainI {op op' : CmpOp} {f g : Int → Int → Bool} (ho : OpR X (compareOp op) (rI0 fun i j => .bl (f i j))) (ho' : OpR X (compareOp op') (rI0 fun i j => .bl (g i j))) (ha : EV X T E a fa) (hb : EV X T E b fb) (hc : EV X T E c fc)
    (hm : lastMarks [op, op'] [b, c] = false := by with_unfolding_all rfl) : EB X T E (.Compare a [op, op'] [b, c] pos) (bVal (dChain (pLtI f) (pLtI g) fa fb fc)) := pt_imp (pt_chain ho ho' ha hb hc hm) fun σ H W q => chain_read (tv_tB q)
theorem truth_rl {p : PV} {v : V} {W : Bool → Prop} (hS : RlS G ρ H st) (r : Rl G ρ H p v) (h : Pst G E ρ H (fun b _ _ _ => W b) (pTruth p st)) : ∃ k, TruV G.K v H k ∧ W k := by
  unfold pTruth at h
  split at h
  · cases r; exact ⟨_, rfl, h.ret hS⟩
  · cases r; exact ⟨_, rfl, h.ret hS⟩
  · cases r; exact ⟨_, rfl, h.ret hS⟩
  · split at h
    · rename_i hz
      cases r; exact ⟨_, ⟨by rw [SZ_eq]; exact hz, rfl⟩, h.ret hS⟩
    · exact h.elim
  · rename_i l
    cases r with
    | tup q ra =>
      refine ⟨_, .inr (.inl ⟨_, q.sq, rfl⟩), ?_⟩
      have := h.ret hS
      cases ra <;> exact this
  · split at h
    · rename_i n _ l e
      cases r with
      | ref q =>
        cases hS.ref q e with
        | lst hh ra =>
          refine ⟨_, .inl ⟨_, .inl (.inl hh), rfl⟩, ?_⟩
          have := h.ret hS
          cases ra <;> exact this
    · rename_i n _ es e
      cases r with
      | ref q =>
        cases hS.ref q e with
        | @dK _ _ kvs hh hk ra =>
          refine ⟨_, .inr (.inr ⟨_, hh, rfl⟩), ?_⟩
          have h := h.ret hS
          have e2 : kvs.isEmpty = es.isEmpty := by
            have z := congrArg List.length hk
            simp only [List.length_map] at z
            cases kvs <;> cases es <;> simp_all
          rw [e2]; exact h
    · exact h.elim
  · rename_i l
    cases r with
    | lst q ra =>
      refine ⟨_, .inl ⟨_, q.sq, rfl⟩, ?_⟩
      have := h.ret hS
      cases ra <;> exact this
  · exact h.elim
theorem truth_pure {x : PV} {b : Bool} {st' : Store} (h : pTruth x st = .ok b st') : st' = st := by
  unfold pTruth at h
  split at h <;> first | (cases h; rfl) | (split at h <;> first | (cases h; rfl) | cases h) | cases h
theorem truth_exc {x : PV} : ∀ c w s, pTruth x st ≠ .exc c w s := fun c w s h => by
  unfold pTruth at h
  split at h <;> first | cases h | (split at h <;> cases h)
theorem eb_truth (h : EV X T E e f) (he : ∀ whole, isTrue e X.env whole = (do let v ← whole; standAt e.pos; holding [v] (truthy v)) := by intro _; rfl) : EB X T E e (bTruth f) := pt_imp (pt_truth h he) fun σ H W q => by
  obtain ⟨ρ, aσ, st, hE, hS, h⟩ := q
  refine tv_bind hE hS h fun ρ1 H1 x v st1 _ s1 _ rx h => ?_
  exact truth_rl (W := fun b => W b H1) s1 rx (pst_still s1 (fun b st' => truth_pure) truth_exc h)
def EW (X : Cx) (T : TR) (E : XK) (e : Expr) (f : DB) : Prop := PW X e (Tb (gOf X T) E f)
theorem eb_w (h : EW X T E e g) : EB X T E e g := PW.pt h
theorem ew_and1 (h : EB X T E a g) : EW X T E (.BoolOp .And [a] pos) g := pw_and1 h
theorem ew_or1 (h : EB X T E a g) : EW X T E (.BoolOp .Or [a] pos) g := pw_or1 h
theorem tb_and {W : Bool → Hp → Prop} (q : Tb G E (bAnd g h) σ H W) : tAnd (Tb G E g) (Tb G E h) σ H W := by
  obtain ⟨ρ, aσ, st, hE, hS, h⟩ := q
  refine tb_bind hE hS h fun ρ1 H1 b st1 _ s1 e1 h => ?_
  cases b with
  | true => exact ite_tt ⟨ρ1, aσ, st1, e1, s1, h⟩
  | false => exact ite_ff (h.ret s1)
theorem tb_or {W : Bool → Hp → Prop} (q : Tb G E (bOr g h) σ H W) : tOr (Tb G E g) (Tb G E h) σ H W := by
  obtain ⟨ρ, aσ, st, hE, hS, h⟩ := q
  refine tb_bind hE hS h fun ρ1 H1 b st1 _ s1 e1 h => ?_
  cases b with
  | true => exact ite_tt (h.ret s1)
  | false => exact ite_ff ⟨ρ1, aσ, st1, e1, s1, h⟩
theorem ew_and {rest : List Expr} (ha : EB X T E a g) (hb : EW X T E (.BoolOp .And (b :: rest) pos) h) : EW X T E (.BoolOp .And (a :: b :: rest) pos) (bAnd g h) := pw_imp (pw_and ha hb) fun _ _ _ q => tb_and q
theorem ew_or {rest : List Expr} (ha : EB X T E a g) (hb : EW X T E (.BoolOp .Or (b :: rest) pos) h) : EW X T E (.BoolOp .Or (a :: b :: rest) pos) (bOr g h) := pw_imp (pw_or ha hb) fun _ _ _ q => tb_or q
theorem eb_not (ha : EB X T E a g) : EB X T E (.UnaryOp .Not a pos) (bNot g) := pt_imp (pt_not ha) fun σ H W q => by
  obtain ⟨ρ, aσ, st, hE, hS, h⟩ := q
  exact tb_bind hE hS h fun ρ1 H1 b st1 _ s1 e1 h => h.ret s1
/-! ### values -/
theorem ev_one {op} (h : EV X T E a fa) : EV X T E (.BoolOp op [a] pos) fa := pe_one h
theorem ev_and {rest : List Expr} (ha : EV X T E a fa) (hb : EV X T E (.BoolOp .And (b :: rest) pos) fb) : EV X T E (.BoolOp .And (a :: b :: rest) pos) (dAnd fa fb) := pe_imp (pe_and ha hb) fun σ H W q => by
  obtain ⟨ρ, aσ, st, hE, hS, h⟩ := q
  refine tv_bind hE hS h fun ρ1 H1 x v st1 _ s1 e1 rx h => ?_
  cases x with
  | bl b =>
    cases rx
    refine ⟨b, rfl, ?_⟩
    cases b with
    | true => exact ite_tt ⟨ρ1, aσ, st1, e1, s1, h⟩
    | false => exact ite_ff (post_val h s1 (.bl false))
  | _ => exact h.elim
theorem ev_or {rest : List Expr} (ha : EV X T E a fa) (hb : EV X T E (.BoolOp .Or (b :: rest) pos) fb) : EV X T E (.BoolOp .Or (a :: b :: rest) pos) (dOr fa fb) := pe_imp (pe_or ha hb) fun σ H W q => by
  obtain ⟨ρ, aσ, st, hE, hS, h⟩ := q
  refine tv_bind hE hS h fun ρ1 H1 x v st1 _ s1 e1 rx h => ?_
  cases x with
  | bl b =>
    cases rx
    refine ⟨b, rfl, ?_⟩
    cases b with
    | true => exact ite_tt (post_val h s1 (.bl true))
    | false => exact ite_ff ⟨ρ1, aσ, st1, e1, s1, h⟩
  | _ => exact h.elim
theorem ev_not (ha : EV X T E a fa) : EV X T E (.UnaryOp .Not a pos) (dNot fa) := pe_imp (pe_not ha) fun σ H W q => by
  obtain ⟨ρ, aσ, st, hE, hS, h⟩ := q
  refine tv_bind hE hS h fun ρ1 H1 x v st1 _ s1 e1 rx h => ?_
  cases x with
  | bl b => cases rx; exact ⟨b, rfl, post_val h s1 (.bl _)⟩
  | _ => exact h.elim
theorem ev_if (hc : EB X T E c g) (ha : EV X T E a fa) (hb : EV X T E b fb) : EV X T E (.IfExp c a b pos) (dIf g fa fb) := pe_imp (pe_ifExp hc ha hb) fun σ H W q => by
  obtain ⟨ρ, aσ, st, hE, hS, h⟩ := q
  refine tb_bind hE hS h fun ρ1 H1 b st1 _ s1 e1 h => ?_
  cases b with
  | true => exact ite_tt ⟨ρ1, aσ, st1, e1, s1, h⟩
  | false => exact ite_ff ⟨ρ1, aσ, st1, e1, s1, h⟩
/-! ### displays -/
variable {es : List Expr} {fs : DA}
theorem ea_nil : EA X T E [] dA0 := pa_imp pa_nil fun σ H W q => by
  obtain ⟨ρ, aσ, st, hE, hS, h⟩ := q
  exact h.ret hS _ .nil
theorem ea_cons (ha : EV X T E e f) (hr : EA X T E es fs) (hs : starEach (e :: es) X.env = (false, eval e X.env) :: starEach es X.env := by rfl) : EA X T E (e :: es) (dAc f fs) := pa_imp (pa_cons ha hr hs) fun σ H W q => by
  obtain ⟨ρ, aσ, st, hE, hS, h⟩ := q
  exact tv_bind hE hS h fun ρ1 H1 x v st1 _ s1 e1 rx h => ta_bind e1 s1 h fun ρ2 H2 xs vs st2 x2 s2 e2 rs h => h.ret s2 _ (.cons (rx.ext x2) rs)
theorem ad_tup : AdqL G E (fun xs H1 Q => xs.length ≤ sizeLine ∧ NewT H1 xs Q) mTup := fun ρ H st xs vs Q hS r h => by
  unfold mTup at h
  split at h
  · rename_i hz
    exact ⟨by rw [SZ_eq, ← r.length]; exact hz, post_tup h hS r⟩
  · exact h.elim
theorem ad_lst : AdqL G E (fun xs H1 Q => xs.length ≤ sizeLine ∧ ∀ p, H1 p = none → Q (.ref p) (upd H1 p (.lst xs))) mLst := fun ρ H st xs vs Q hS r h => by
  unfold mLst at h
  split at h
  · rename_i hz
    exact ⟨by rw [SZ_eq, ← r.length]; exact hz, fun p hp => post_lst h hS r hp⟩
  · exact h.elim
theorem ad_lstR : AdqL G E (fun xs H1 Q => xs.length ≤ sizeLine ∧ ∀ p, H1 p = none → Q (.ref p) (upd H1 p (.lst xs))) mLstR := fun ρ H st xs vs Q hS r h => by
  unfold mLstR at h
  split at h
  · rename_i hz
    exact ⟨by rw [SZ_eq, ← r.length]; exact hz, fun p hp => post_lstR h hS r hp⟩
  · exact h.elim
theorem ev_tup {x1} (h : EA X T E es fs) : EV X T E (.Tuple es x1 pos) (dAl mTup fs) := pe_imp (pe_tupF h) fun _ _ _ q => tvl ad_tup q
theorem ev_lst (h : EA X T E es fs) : EV X T E (.List es pos) (dAl mLst fs) := pe_imp (pe_lst h) fun _ _ _ q => tvl ad_lst q
theorem ev_lstR (h : EA X T E es fs) : EV X T E (.List es pos) (dAl mLstR fs) := pe_imp (pe_lst h) fun _ _ _ q => tvl ad_lstR q
end
end DN
set_option Elab.async false
set_option linter.all false
set_option maxRecDepth 100000
set_option maxHeartbeats 2000000
/-! DnExpr5: subscripts, slices, calls of built-ins. -/
namespace DN
open PySem PySem.Spec PyProof.Rows L2

section
variable {X : Cx} {T : TR} {E : XK} {G : DG} {ρ : List Addr} {H : Hp} {σ : St} {aσ : AE} {st : Store}
variable {e a b c : Expr} {fa fb fc f : DE} {g h : DB} {pos : Pos} {es : List Expr} {fs : DA}
theorem atI_rl {l : List PV} {xs : List V} {i : Int} {p : PV} (r : RlAll G ρ H l xs) (h : atI l i = some p) : ∃ v, atI xs i = some v ∧ Rl G ρ H p v := by
  unfold atI at h ⊢
  rw [← r.length]
  obtain ⟨j, e1, e2⟩ := Option.bind_eq_some_iff.mp h
  obtain ⟨v, e3, r3⟩ := r.get e2
  exact ⟨v, by rw [e1]; exact e3, r3⟩
def rIxK : R2 := fun x y H Q => ∃ a v, x = .ref a ∧ DGet H a y (some v) ∧ Q v H
theorem ix_dict (hu : X.A.units + 65 < cLine) : IxR X rIxK := by
  intro value slice pins s σ H x y v u Q I rx ry h hs
  obtain ⟨a, w, rfl, g, q⟩ := h
  cases rx
  have T := dict_typeIs I g
  unfold subscriptTail
  refine wpAny_bind ?_
  rw [getitemInPython_of_ne T.not_modules]
  refine wpAny_bind (wpAny_specialOf T PySem.F.slot_dict_getitem.lookup ?_)
  have fin : wpAny (model X.prog X.w) X.A (subscripted slice false (.ref a) u) (fun r s₃ => wpAny (model X.prog X.w) X.A (letTemporaryGo value (.ref a) r >>= fun _ => pure r) (EP X pins σ Q) X.xe s₃) X.xe s := by
    rw [hs]
    exact wpAny_operating (wpAny_mono (d_getItem (Q := fun w' s3 => EP X pins σ Q w' s3) (by omega) I g ry fun w' s3 I3 rw' => ⟨w, H, I3, rw', q⟩) (fun r s₃ h₃ => wpAny_bind (wpAny_letTemporaryGo (wpAny_pure h₃))) fun _ _ x => x)
  first
    | exact wpAny_pure (wpAny_bind fin)
    | exact wpAny_bind (wpAny_pure (wpAny_bind fin))
    | exact wpAny_bind fin
def rIxA (K : PySem.W.Frag) : R2 := fun x y H Q => rIxK x y H Q ∨ rIx K x y H Q
theorem ad_ix : Adq2 G E (rIxA G.K) pIx := fun ρ H st x y v u Q hS rx ry h => by
  unfold pIx at h
  split at h
  · rename_i w e
    obtain ⟨a, o, rfl, g, r⟩ := dGet_rl hS e rx ry
    cases o with
    | none => exact r.elim
    | some o => exact .inl ⟨a, o, rfl, g, post_val h hS r⟩
  · exact h.elim
  · split at h
    · rename_i i
      cases ry
      split at h
      · split at h
        · rename_i w e
          cases rx with
          | tup q ra =>
            obtain ⟨z, e2, r2⟩ := atI_rl ra e
            exact .inr (.inr (.inl ⟨_, _, _, z, rfl, rfl, q.sq, e2, post_val h hS r2⟩))
        · exact h.elim
      · split at h
        · rename_i hz
          split at h
          · rename_i c e
            cases rx
            exact .inr (.inr (.inr ⟨_, _, c, rfl, rfl, by rw [SZ_eq]; exact hz, e, post_val h hS (.str _)⟩))
          · exact h.elim
        · exact h.elim
      · split at h
        · rename_i l e
          split at h
          · rename_i w e1
            obtain ⟨a, xs, rfl, rd, ra⟩ := asR_rl hS rx e
            obtain ⟨z, e2, r2⟩ := atI_rl ra e1
            exact .inr (.inl ⟨_, _, _, z, rfl, rfl, rd, e2, post_val h hS r2⟩)
          · exact h.elim
        · exact h.elim
    · exact h.elim
theorem ev_ix (hu : X.A.units + 65 < cLine) (ha : EV X T E a fa) (hb : EV X T E b fb) (hs : PlainIx b := by exact fun _ _ => rfl) : EV X T E (.Subscript a b pos) (d2 pIx fa fb) := pe_imp (pe_ix ((ix_dict hu).or ix_seq) ha hb hs) fun _ _ _ q => tv2 ad_ix q

/-! ### slices -/
theorem RlAll.cut {l : List PV} {xs : List V} (lo hi : Option Int) (r : RlAll G ρ H l xs) : RlAll G ρ H (cut l lo hi) (cutV xs lo hi) := by
  unfold DN.cut cutV
  rw [r.length]
  exact (r.drop _).take _
theorem cut_whole {α : Type} (l : List α) (lo hi : Option Int) (h : HT.sIx l.length 0 lo = 0 ∧ HT.sIx l.length l.length hi = l.length) : cut l lo hi = l := by
  unfold cut
  rw [h.1, h.2]
  simp
def rSlAll (K : PySem.W.Frag) : V → Option Int → Option Int → Hp → VK → Prop := fun x lo hi H Q => (rSlF K x lo hi H Q ∨ rSlS x lo hi H Q) ∨ rSlL K x lo hi H Q
theorem sl_all : SlR X (rSlAll X.K) := (sl_tupF.or sl_str).or sl_list
theorem sl_rl {x : PV} {v : V} {lo hi : Option Int} {Q : VK} (hS : RlS G ρ H st) (rx : Rl G ρ H x v) (h : Pst G E ρ H (KV G Q) (pSl x lo hi st)) : rSlAll G.K v lo hi H Q := by
  unfold pSl at h
  split at h
  · rename_i l
    cases rx with
    | @tup a _ xs q ra =>
      refine .inl (.inl ⟨a, xs, rfl, q.sq, fun w => ?_, fun _ => post_tup h hS (ra.cut lo hi)⟩)
      rw [← ra.length] at w
      rw [cut_whole l lo hi w] at h
      exact post_val h hS (.tup q ra)
  · split at h
    · rename_i hz
      cases rx
      exact .inl (.inr ⟨_, rfl, by rw [SZ_eq]; exact hz, post_val h hS (.str _)⟩)
    · exact h.elim
  · split at h
    · rename_i l e
      obtain ⟨a, xs, rfl, rd, ra⟩ := asL_rl hS rx e
      exact .inr ⟨a, xs, rfl, .inl rd, fun p hp => post_lst h hS (ra.cut lo hi) hp⟩
    · exact h.elim
def To (G : DG) (E : XK) (f : DO) : TO := fun σ H Q => ∃ ρ aσ st, RlE G ρ H aσ σ ∧ RlS G ρ H st ∧ Pst G E ρ H (fun o _ _ H' => Q o H') (f aσ st)
def EO (X : Cx) (T : TR) (E : XK) (e : Option Expr) (f : DO) : Prop := PO X e (To (gOf X T) E f)
theorem po_imp {e : Option Expr} {t t' : TO} (h : PO X e t) (i : ∀ σ H Q, t' σ H Q → t σ H Q) : PO X e t' := ⟨fun pins s σ H Q I q => h.run pins s σ H Q I (i σ H Q q)⟩
theorem eo_none : EO X T E none oNone := po_imp po_none fun σ H W q => by
  obtain ⟨ρ, aσ, st, hE, hS, h⟩ := q
  exact h.ret hS
theorem eo_some (ha : EV X T E a fa) : EO X T E (some a) (oSome fa) := po_imp (po_some ha) fun σ H W q => by
  obtain ⟨ρ, aσ, st, hE, hS, h⟩ := q
  refine tv_bind hE hS h fun ρ1 H1 x v st1 _ s1 _ rx h => ?_
  cases x with
  | int i => cases rx; exact ⟨i, rfl, h.ret s1⟩
  | _ => exact h.elim
theorem to_bind {β : Type} {f : DO} {k : Option Int → Store → Res β} {K : β → Store → List Addr → Hp → Prop} {W : Option Int → Hp → Prop} (hE : RlE G ρ H aσ σ) (hS : RlS G ρ H st) (h : Pst G E ρ H K ((f aσ st).bind k))
    (q : ∀ ρ1 H1 o st1, Ext G.T ρ H ρ1 H1 → RlS G ρ1 H1 st1 → RlE G ρ1 H1 aσ σ → Pst G E ρ1 H1 K (k o st1) → W o H1) : To G E f σ H W :=
  ⟨ρ, aσ, st, hE, hS, h.bind.imp fun x st1 ρ1 H1 _ _ z => q ρ1 H1 x st1 z.1 z.2.1 (hE.ext z.1) z.2.2⟩
theorem ev_sl {lo hi : Option Expr} {fl fh : DO} {p2 : Pos} (ha : EV X T E a fa) (hl : EO X T E lo fl) (hh : EO X T E hi fh) : EV X T E (.Subscript a (.Slice lo hi none p2) pos) (dSl fa fl fh) := pe_imp (pe_slice sl_all ha hl hh) fun σ H W q => by
  obtain ⟨ρ, aσ, st, hE, hS, h⟩ := q
  exact tv_bind hE hS h fun ρ1 H1 x v st1 x1 s1 e1 rx h => to_bind e1 s1 h fun ρ2 H2 lo st2 x2 s2 e2 h => to_bind e2 s2 h fun ρ3 H3 hi st3 x3 s3 e3 h => sl_rl s3 ((rx.ext x2).ext x3) h

/-! ### calls of built-ins -/
variable {id Ty : String} {r : List V → Hp → VK → Prop} {d : List PV → M PV} {x : Str} {p : Pos}
theorem ev_bi (hc : CallR X (.builtin id) r) (ad : AdqL (gOf X T) E r d) (hg : Gl X x) (hm : X.mg x = none) (hv : bootBuiltins x = some (.builtin id)) (ha : EA X T E (e :: es) fs) (hn : x ≠ "__name__" := by decide) (hdb : (x == ("__debug__" : Str)) = false := by decide)
    (hs : starEach (e :: es) X.env = (false, eval e X.env) :: starEach es X.env := by rfl) (hpl : (backTo pos (starEach es X.env)).any (·.1) = false := by rfl) : EV X T E (.Call (.Name x p) (e :: es) [] pos) (dAl d fs) :=
  pe_imp (pe_callB hc hg hm hv ha hn hdb hs hpl) fun _ _ _ q => tvl ad q
theorem ev_ty (hc : CallR X (.type Ty) r) (ad : AdqL (gOf X T) E r d) (hg : Gl X x) (hm : X.mg x = none) (hv : bootBuiltins x = some (.type Ty)) (ha : EA X T E (e :: es) fs) (hn : x ≠ "__name__" := by decide) (hdb : (x == ("__debug__" : Str)) = false := by decide)
    (hs : starEach (e :: es) X.env = (false, eval e X.env) :: starEach es X.env := by rfl) (hpl : (backTo pos (starEach es X.env)).any (·.1) = false := by rfl) : EV X T E (.Call (.Name x p) (e :: es) [] pos) (dAl d fs) :=
  pe_imp (pe_callTy hc hg hm hv ha hn hdb hs hpl) fun _ _ _ q => tvl ad q
end
end DN
set_option Elab.async false
set_option linter.all false
set_option maxRecDepth 100000
set_option maxHeartbeats 2000000
/-! DnCall: built-ins by name. -/
namespace DN
open PySem PySem.Spec PyProof.Rows L2

/-! ### readings -/
def qLen (xs : List PV) : M PV := fun st => match xs with
  | [.str x] => if x.length ≤ SZ then .ok (.int x.length) st else .fail
  | [.tup l] => .ok (.int l.length) st
  | [.dK ks vs] => .fail
  | [.dT ks vs] => .fail
  | [.ref n] => (match st[n]? with
    | some (.lst l) => .ok (.int l.length) st
    | some (.dK es) => .ok (.int es.length) st
    | some (.dT es) => .ok (.int es.length) st
    | _ => .fail)
  | [.lst l] => .ok (.int l.length) st
  | [.scr l] => .ok (.int l.length) st
  | _ => .fail
def qInt (xs : List PV) : M PV := fun st => match xs with
  | [.int i] => .ok (.int i) st
  | [.bl b] => .ok (.int (if b then 1 else 0)) st
  | [.str x] => (match PySem.intText? x with
    | some n => if x.length ≤ 640 then .ok (.int n) st else .fail
    | none => .fail)
  | _ => .fail
def qStr (xs : List PV) : M PV := fun st => match xs with
  | [.int i] => if -B200 < i ∧ i < B200 then .ok (.str (toString i)) st else .fail
  | [.str x] => .ok (.str x) st
  | _ => .fail
def qTup (xs : List PV) : M PV := fun st => match xs with
  | [.tup l] => .ok (.tup l) st
  | [x] => (match asL x st with
    | some l => .ok (.tup l) st
    | none => .fail)
  | _ => .fail
/-- the items of a tuple, a list -/
def asI (p : PV) (st : Store) : Option (List PV) := match p with
  | .tup l => some l
  | p => asL p st
def qLst (xs : List PV) : M PV := fun st => match xs with
  | [x] => (match asI x st with
    | some l => .ok (.lst l) st
    | none => .fail)
  | _ => .fail
def qLstR (xs : List PV) : M PV := fun st => match xs with
  | [x] => (match asI x st with
    | some l => .ok (.ref st.length) (st ++ [.lst l])
    | none => .fail)
  | _ => .fail
def qMax (xs : List PV) : M PV := fun st => match xs with
  | [.int i, .int j] => .ok (.int (if j > i then j else i)) st
  | _ => .fail
def qMin (xs : List PV) : M PV := fun st => match xs with
  | [.int i, .int j] => .ok (.int (if j < i then j else i)) st
  | _ => .fail
def qAbs (xs : List PV) : M PV := fun st => match xs with
  | [.int i] => .ok (.int (if i < 0 then -i else i)) st
  | _ => .fail
/-- the name of a value's type -/
def tyN (p : PV) (st : Store) : Option String := match p with
  | .non => some "NoneType"
  | .bl _ => some "bool"
  | .int _ => some "int"
  | .str _ => some "str"
  | .tup _ => some "tuple"
  | .lst _ => some "list"
  | .ref n => (match st[n]? with
    | some (.lst _) => some "list"
    | some (.dK _) => some "dict"
    | some (.dT _) => some "dict"
    | _ => none)
  | _ => none
/-- isinstance of these -/
def isSub (a b : String) : Option Bool := match a, b with
  | "bool", "int" => some true
  | a, b => if a ∈ ["NoneType", "bool", "int", "str", "tuple", "list", "dict"] ∧ b ∈ ["bool", "int", "str", "tuple", "list", "dict"] then some (decide (a = b)) else none
def qIsI (xs : List PV) : M PV := fun st => match xs with
  | [x, .ty n] => (match (tyN x st).bind fun a => isSub a n with
    | some b => .ok (.bl b) st
    | none => .fail)
  | _ => .fail
/-- ints -/
def ints? : List PV → Option (List Int)
  | [] => some []
  | .int i :: r => (ints? r).map fun l => i :: l
  | _ :: _ => none
def ins (i : Int) : List Int → List Int
  | [] => [i]
  | j :: r => if i ≤ j then i :: j :: r else j :: ins i r
def isort : List Int → List Int
  | [] => []
  | i :: r => ins i (isort r)
def qSrtI (xs : List PV) : M PV := fun st => match xs with
  | [x] => (match (asL x st).bind ints? with
    | some l => .ok (.lst ((isort l).map PV.int)) st
    | none => .fail)
  | _ => .fail
def qSrtIR (xs : List PV) : M PV := fun st => match xs with
  | [x] => (match (asL x st).bind ints? with
    | some l => .ok (.ref st.length) (st ++ [.lst ((isort l).map PV.int)])
    | none => .fail)
  | _ => .fail
def rgP (a b : Int) : List PV := (List.range (b - a).toNat).map fun i => PV.int (a + (i : Nat))

/-! ### sorting of ints -/
theorem ins_perm (i : Int) : ∀ l : List Int, (ins i l).Perm (i :: l)
  | [] => List.Perm.refl _
  | j :: r => by
    unfold ins
    split
    · exact List.Perm.refl _
    · exact ((ins_perm i r).cons j).trans (List.Perm.swap i j r)
theorem isort_perm : ∀ l : List Int, (isort l).Perm l
  | [] => List.Perm.refl _
  | i :: r => (ins_perm i (isort r)).trans ((isort_perm r).cons i)
theorem ins_sorted (i : Int) : ∀ l : List Int, l.Pairwise (· ≤ ·) → (ins i l).Pairwise (· ≤ ·)
  | [], _ => by simp [ins]
  | j :: r, h => by
    unfold ins
    split
    · rename_i hij
      rw [List.pairwise_cons]
      refine ⟨fun a ha => ?_, h⟩
      rcases List.mem_cons.mp ha with rfl | ha
      · exact hij
      · exact Int.le_trans hij ((List.pairwise_cons.mp h).1 a ha)
    · rename_i hij
      rw [List.pairwise_cons]
      refine ⟨fun a ha => ?_, ins_sorted i r (List.pairwise_cons.mp h).2⟩
      rcases List.mem_cons.mp ((ins_perm i r).mem_iff.mp ha) with rfl | ha
      · omega
      · exact (List.pairwise_cons.mp h).1 a ha
theorem isort_sorted : ∀ l : List Int, (isort l).Pairwise (· ≤ ·)
  | [] => List.Pairwise.nil
  | i :: r => ins_sorted i _ (isort_sorted r)
theorem sorted_unique : ∀ {a b : List Int}, a.Perm b → a.Pairwise (· ≤ ·) → b.Pairwise (· ≤ ·) → a = b := fun {a b} p ha hb =>
  p.eq_of_pairwise (fun x y _ _ h1 h2 => Int.le_antisymm h1 h2) ha hb

section
variable {X : Cx} {T : TR} {E : XK} {G : DG} {ρ : List Addr} {H : Hp} {σ : St} {aσ : AE} {st : Store}
theorem all1 {p : PV} {vs : List V} (r : RlAll G ρ H [p] vs) : ∃ v, vs = [v] ∧ Rl G ρ H p v := by
  cases r with
  | cons r t => cases t; exact ⟨_, rfl, r⟩
theorem all2 {p q : PV} {vs : List V} (r : RlAll G ρ H [p, q] vs) : ∃ v w, vs = [v, w] ∧ Rl G ρ H p v ∧ Rl G ρ H q w := by
  cases r with
  | cons r t => cases t with
    | cons r2 t => cases t; exact ⟨_, _, rfl, r, r2⟩
theorem asI_rl {p : PV} {v : V} {l : List PV} (hS : RlS G ρ H st) (r : Rl G ρ H p v) (h : asI p st = some l) : ∃ a xs, v = .ref a ∧ (SqL G.K H a xs ∨ SqT G.K H a xs) ∧ RlAll G ρ H l xs := by
  unfold asI at h
  split at h
  · cases h
    cases r with
    | tup q ra => exact ⟨_, _, rfl, .inr q.sq, ra⟩
  · obtain ⟨a, xs, e, rd, ra⟩ := asL_rl hS r h
    exact ⟨a, xs, e, .inl (.inl rd), ra⟩
def rLenAll (K : PySem.W.Frag) : List V → Hp → VK → Prop := fun xs H Q => ((∃ x n, xs = [x] ∧ LenV K x H n ∧ Q (.int n) H) ∨ (∃ a kvs, xs = [V.ref a] ∧ H a = some (.dK kvs) ∧ Q (.int kvs.length) H)) ∨ rLenT xs H Q
theorem call_lenAll : CallR X (.builtin "len") (rLenAll X.K) := (call_len.or call_lenD).or call_len_dT
theorem ad_len : AdqL G E (rLenAll G.K) qLen := fun ρ H st xs vs Q hS rs h => by
  unfold qLen at h
  split at h
  · split at h
    · rename_i x hz
      obtain ⟨v, rfl, r⟩ := all1 rs
      cases r
      exact .inl (.inl ⟨_, _, rfl, ⟨by rw [SZ_eq]; exact hz, rfl⟩, post_val h hS (.int _)⟩)
    · exact h.elim
  · obtain ⟨v, rfl, r⟩ := all1 rs
    cases r with
    | tup q ra => exact .inl (.inl ⟨_, _, rfl, .inr ⟨_, q.sq, rfl⟩, by rw [← ra.length]; exact post_val h hS (.int _)⟩)
  · exact h.elim
  · exact h.elim
  · rename_i n
    obtain ⟨v, rfl, r⟩ := all1 rs
    cases r with
    | ref q =>
      split at h
      · rename_i l e
        cases hS.ref q e with
        | lst hh ra => exact .inl (.inl ⟨_, _, rfl, .inl ⟨_, .inl (.inl hh), rfl⟩, by rw [← ra.length]; exact post_val h hS (.int _)⟩)
      · rename_i es e
        cases hS.ref q e with
        | @dK _ _ kvs hh hk ra =>
          have z := congrArg List.length hk
          simp only [List.length_map] at z
          exact .inl (.inr ⟨_, kvs, rfl, hh, by rw [← z]; exact post_val h hS (.int _)⟩)
      · rename_i es e
        cases hS.ref q e with
        | @dT _ _ kvs hh hk ra =>
          have z := congrArg List.length hk
          simp only [List.length_map] at z
          exact .inr ⟨_, kvs, rfl, hh, by rw [← z]; exact post_val h hS (.int _)⟩
      · exact h.elim
  · obtain ⟨v, rfl, r⟩ := all1 rs
    cases r with
    | lst q ra => exact .inl (.inl ⟨_, _, rfl, .inl ⟨_, q.sq, rfl⟩, by rw [← ra.length]; exact post_val h hS (.int _)⟩)
  · obtain ⟨v, rfl, r⟩ := all1 rs
    cases r with
    | scr q ra => exact .inl (.inl ⟨_, _, rfl, .inl ⟨_, q.elim (fun q => q.sq) (fun q => q H), rfl⟩, by rw [← ra.length]; exact post_val h hS (.int _)⟩)
  · exact h.elim
def rIntAll : List V → Hp → VK → Prop := fun xs H Q => ((∃ i, xs = [.int i] ∧ Q (.int i) H) ∨ ∃ k, xs = [.bl k] ∧ Q (.int (if k then 1 else 0)) H) ∨ (∃ a n, xs = [.str a] ∧ PySem.intText? a = some n ∧ a.length ≤ 640 ∧ Q (.int n) H)
theorem call_intAll : CallR X (.type "int") rIntAll := call_int1.or call_int_str
theorem ad_int : AdqL G E rIntAll qInt := fun ρ H st xs vs Q hS rs h => by
  unfold qInt at h
  split at h
  · obtain ⟨v, rfl, r⟩ := all1 rs
    cases r
    exact .inl (.inl ⟨_, rfl, post_val h hS (.int _)⟩)
  · obtain ⟨v, rfl, r⟩ := all1 rs
    cases r
    exact .inl (.inr ⟨_, rfl, post_val h hS (.int _)⟩)
  · obtain ⟨v, rfl, r⟩ := all1 rs
    cases r
    split at h
    · rename_i n e
      split at h
      · rename_i hz
        exact .inr ⟨_, n, rfl, e, hz, post_val h hS (.int _)⟩
      · exact h.elim
    · exact h.elim
  · exact h.elim
def rStrAll : List V → Hp → VK → Prop := fun xs H Q => (∃ i, xs = [.int i] ∧ i.natAbs.log2 < 1920 ∧ Q (.str (toString i)) H) ∨ (∃ a, xs = [.str a] ∧ Q (.str a) H)
theorem call_strAll : CallR X (.type "str") rStrAll := call_str_int.or SkE.call_str_str
theorem ad_str : AdqL G E rStrAll qStr := fun ρ H st xs vs Q hS rs h => by
  unfold qStr at h
  split at h
  · split at h
    · rename_i i hz
      obtain ⟨v, rfl, r⟩ := all1 rs
      cases r
      refine .inl ⟨_, rfl, ?_, post_val h hS (.str _)⟩
      have h1 := hz.1
      have h2 := hz.2
      simp only [B200] at h1 h2
      have e : (2 : Nat) ^ 200 = 1606938044258990275541962092341162602522202993782792835301376 := by decide
      have := PySem.Flt.log2_lt_of (n := i.natAbs) (k := 200) (by decide) (by rw [e]; omega)
      omega
    · exact h.elim
  · obtain ⟨v, rfl, r⟩ := all1 rs
    cases r
    exact .inr ⟨_, rfl, post_val h hS (.str _)⟩
  · exact h.elim
theorem ad_tupOf : AdqL G E (rTupF G.K) qTup := fun ρ H st xs vs Q hS rs h => by
  unfold qTup at h
  split at h
  · obtain ⟨v, rfl, r⟩ := all1 rs
    cases r with
    | tup q ra => exact ⟨_, _, rfl, .inr ⟨q.sq, post_val h hS (.tup q ra)⟩⟩
  · obtain ⟨v, rfl, r⟩ := all1 rs
    split at h
    · rename_i l e
      obtain ⟨a, xs, rfl, rd, ra⟩ := asL_rl hS r e
      exact ⟨_, _, rfl, .inl ⟨.inl rd, post_tup h hS ra⟩⟩
    · exact h.elim
  · exact h.elim
theorem ad_lstOf : AdqL G E (fun xs H Q => ∃ p ys, xs = [.ref p] ∧ (SqL G.K H p ys ∨ SqT G.K H p ys) ∧ ∀ l, H l = none → Q (.ref l) (upd H l (.lst ys))) qLst := fun ρ H st xs vs Q hS rs h => by
  unfold qLst at h
  split at h
  · obtain ⟨v, rfl, r⟩ := all1 rs
    split at h
    · rename_i l e
      obtain ⟨a, xs, rfl, rd, ra⟩ := asI_rl hS r e
      exact ⟨_, _, rfl, rd, fun p hp => post_lst h hS ra hp⟩
    · exact h.elim
  · exact h.elim
theorem ad_lstOfR : AdqL G E (fun xs H Q => ∃ p ys, xs = [.ref p] ∧ (SqL G.K H p ys ∨ SqT G.K H p ys) ∧ ∀ l, H l = none → Q (.ref l) (upd H l (.lst ys))) qLstR := fun ρ H st xs vs Q hS rs h => by
  unfold qLstR at h
  split at h
  · obtain ⟨v, rfl, r⟩ := all1 rs
    split at h
    · rename_i l e
      obtain ⟨a, xs, rfl, rd, ra⟩ := asI_rl hS r e
      exact ⟨_, _, rfl, rd, fun p hp => post_lstR h hS ra hp⟩
    · exact h.elim
  · exact h.elim
theorem ad_max : AdqL G E (fun xs H Q => ∃ i j, xs = [.int i, .int j] ∧ Q (.int (if j > i then j else i)) H) qMax := fun ρ H st xs vs Q hS rs h => by
  unfold qMax at h
  split at h
  · obtain ⟨v, w, rfl, r1, r2⟩ := all2 rs
    cases r1; cases r2
    exact ⟨_, _, rfl, post_val h hS (.int _)⟩
  · exact h.elim
theorem ad_min : AdqL G E (fun xs H Q => ∃ i j, xs = [.int i, .int j] ∧ Q (.int (if j < i then j else i)) H) qMin := fun ρ H st xs vs Q hS rs h => by
  unfold qMin at h
  split at h
  · obtain ⟨v, w, rfl, r1, r2⟩ := all2 rs
    cases r1; cases r2
    exact ⟨_, _, rfl, post_val h hS (.int _)⟩
  · exact h.elim
theorem ad_abs : AdqL G E (fun xs H Q => ∃ i, xs = [.int i] ∧ Q (.int (if i < 0 then -i else i)) H) qAbs := fun ρ H st xs vs Q hS rs h => by
  unfold qAbs at h
  split at h
  · obtain ⟨v, rfl, r1⟩ := all1 rs
    cases r1
    exact ⟨_, rfl, post_val h hS (.int _)⟩
  · exact h.elim
/-! isinstance -/
theorem tyN_x {p : PV} {v : V} {t : String} (hS : RlS G ρ H st) (r : Rl G ρ H p v) (h : tyN p st = some t) : TyX G.K H v (.type t) := by
  unfold tyN at h
  split at h
  · cases h; cases r; exact .base .non
  · cases h; cases r; exact .base (.bl _)
  · cases h; cases r; exact .base (.int _)
  · cases h; cases r; exact .base (.str _)
  · cases h
    cases r with
    | tup q ra =>
      rcases q with ⟨o, _, q⟩ | ⟨_, o, its, n, e, c, _⟩
      · generalize isF _ = f at q
        cases f
        · exact .base (.tup q)
        · exact .fTuple q
      · exact .kTuple e c
  · cases h
    cases r with
    | lst q ra =>
      rcases q.1 with q | ⟨o, q⟩
      · exact .base (.lst q)
      · exact .base (.frz q)
  · split at h
    · rename_i n _ l e
      cases h
      cases r with
      | ref q =>
        cases hS.ref q e with
        | lst hh ra => exact .base (.lst hh)
    · rename_i n _ l e
      cases h
      cases r with
      | ref q =>
        cases hS.ref q e with
        | dK hh hk ra => exact .base (.dK hh)
    · rename_i n _ l e
      cases h
      cases r with
      | ref q =>
        cases hS.ref q e with
        | dT hh hk ra => exact .base (.dT hh)
    · cases h
  · cases h
theorem isSub_kit {K : PySem.W.Frag} {a b : String} {k : Bool} (h : isSub a b = some k) : PySem.W.kitOne K (.type a) (.type b) = some k := by
  refine kit_ty ?_
  unfold isSub at h
  split at h
  · cases h; decide +kernel
  · split at h
    · rename_i hm
      obtain ⟨h1, h2⟩ := hm
      cases h
      simp only [List.mem_cons, List.not_mem_nil, or_false] at h1 h2
      rename_i hne
      rcases h1 with rfl | rfl | rfl | rfl | rfl | rfl | rfl <;> rcases h2 with rfl | rfl | rfl | rfl | rfl | rfl <;> first | (exact (hne rfl rfl).elim) | decide +kernel
    · cases h
theorem ad_isi : AdqL G E (rIsi G.K) qIsI := fun ρ H st xs vs Q hS rs h => by
  unfold qIsI at h
  split at h
  · rename_i x n
    obtain ⟨v, w, rfl, r1, r2⟩ := all2 rs
    cases r2
    split at h
    · rename_i b e
      obtain ⟨t, e1, e2⟩ := Option.bind_eq_some_iff.mp e
      exact ⟨v, _, _, _, b, rfl, .ty n, tyN_x hS r1 e1, isSub_kit e2, post_val h hS (.bl _)⟩
    · exact h.elim
  · exact h.elim
/-! sorted -/
theorem ints_rl : ∀ {l : List PV} {xs : List V} {ns : List Int}, ints? l = some ns → RlAll G ρ H l xs → xs = ns.map V.int
  | [], xs, ns, h, r => by
    simp only [ints?, Option.some.injEq] at h
    subst h; cases r; rfl
  | p :: l, xs, ns, h, r => by
    cases p with
    | int i =>
      simp only [ints?] at h
      obtain ⟨ms, e, rfl⟩ := Option.map_eq_some_iff.mp h
      cases r with
      | cons r1 r2 =>
        cases r1
        rw [ints_rl e r2]; rfl
    | _ => simp [ints?] at h
theorem rl_ints : ∀ ns : List Int, RlAll G ρ H (ns.map PV.int) (ns.map V.int)
  | [] => .nil
  | i :: r => .cons (.int i) (rl_ints r)
theorem ad_srtI : AdqL G E (rSortedI G.K) qSrtI := fun ρ H st xs vs Q hS rs h => by
  unfold qSrtI at h
  split at h
  · obtain ⟨v, rfl, r⟩ := all1 rs
    split at h
    · rename_i ns e
      obtain ⟨l, e1, e2⟩ := Option.bind_eq_some_iff.mp e
      obtain ⟨a, xs, rfl, rd, ra⟩ := asL_rl hS r e1
      have ex := ints_rl e2 ra
      subst ex
      refine ⟨a, ns, rfl, .inl rd, fun ns' p hp ho hn => ?_⟩
      have e3 : ns' = isort ns := sorted_unique (hp.trans (isort_perm ns).symm) ho (isort_sorted ns)
      subst e3
      exact post_lst h hS (rl_ints _) hn
    · exact h.elim
  · exact h.elim
theorem ad_srtIR : AdqL G E (rSortedI G.K) qSrtIR := fun ρ H st xs vs Q hS rs h => by
  unfold qSrtIR at h
  split at h
  · obtain ⟨v, rfl, r⟩ := all1 rs
    split at h
    · rename_i ns e
      obtain ⟨l, e1, e2⟩ := Option.bind_eq_some_iff.mp e
      obtain ⟨a, xs, rfl, rd, ra⟩ := asL_rl hS r e1
      have ex := ints_rl e2 ra
      subst ex
      refine ⟨a, ns, rfl, .inl rd, fun ns' p hp ho hn => ?_⟩
      have e3 : ns' = isort ns := sorted_unique (hp.trans (isort_perm ns).symm) ho (isort_sorted ns)
      subst e3
      exact post_lstR h hS (rl_ints _) hn
    · exact h.elim
  · exact h.elim

/-! ### the rules -/
variable {e a b c : Expr} {fa fb fc f : DE} {pos p : Pos} {es : List Expr} {fs : DA}
theorem ev_len (hg : Gl X "len") (hm : X.mg "len" = none) (ha : EA X T E (e :: es) fs) (hs : starEach (e :: es) X.env = (false, eval e X.env) :: starEach es X.env := by rfl) (hpl : (backTo pos (starEach es X.env)).any (·.1) = false := by rfl) : EV X T E (.Call (.Name "len" p) (e :: es) [] pos) (dAl qLen fs) :=
  ev_bi call_lenAll ad_len hg hm PySem.boot_len ha (by decide) (by decide) hs hpl
theorem ev_intC (hg : Gl X "int") (hm : X.mg "int" = none) (ha : EA X T E (e :: es) fs) (hs : starEach (e :: es) X.env = (false, eval e X.env) :: starEach es X.env := by rfl) (hpl : (backTo pos (starEach es X.env)).any (·.1) = false := by rfl) : EV X T E (.Call (.Name "int" p) (e :: es) [] pos) (dAl qInt fs) :=
  ev_ty call_intAll ad_int hg hm (by decide +kernel) ha (by decide) (by decide) hs hpl
theorem ev_strC (hg : Gl X "str") (hm : X.mg "str" = none) (ha : EA X T E (e :: es) fs) (hs : starEach (e :: es) X.env = (false, eval e X.env) :: starEach es X.env := by rfl) (hpl : (backTo pos (starEach es X.env)).any (·.1) = false := by rfl) : EV X T E (.Call (.Name "str" p) (e :: es) [] pos) (dAl qStr fs) :=
  ev_ty call_strAll ad_str hg hm (by decide +kernel) ha (by decide) (by decide) hs hpl
theorem ev_tupC (hg : Gl X "tuple") (hm : X.mg "tuple" = none) (ha : EA X T E (e :: es) fs) (hs : starEach (e :: es) X.env = (false, eval e X.env) :: starEach es X.env := by rfl) (hpl : (backTo pos (starEach es X.env)).any (·.1) = false := by rfl) : EV X T E (.Call (.Name "tuple" p) (e :: es) [] pos) (dAl qTup fs) :=
  ev_ty call_tupleF ad_tupOf hg hm (by decide +kernel) ha (by decide) (by decide) hs hpl
theorem ev_lstC (hg : Gl X "list") (hm : X.mg "list" = none) (ha : EA X T E (e :: es) fs) (hs : starEach (e :: es) X.env = (false, eval e X.env) :: starEach es X.env := by rfl) (hpl : (backTo pos (starEach es X.env)).any (·.1) = false := by rfl) : EV X T E (.Call (.Name "list" p) (e :: es) [] pos) (dAl qLst fs) :=
  ev_ty call_list_of ad_lstOf hg hm (by decide +kernel) ha (by decide) (by decide) hs hpl
theorem ev_lstCR (hg : Gl X "list") (hm : X.mg "list" = none) (ha : EA X T E (e :: es) fs) (hs : starEach (e :: es) X.env = (false, eval e X.env) :: starEach es X.env := by rfl) (hpl : (backTo pos (starEach es X.env)).any (·.1) = false := by rfl) : EV X T E (.Call (.Name "list" p) (e :: es) [] pos) (dAl qLstR fs) :=
  ev_ty call_list_of ad_lstOfR hg hm (by decide +kernel) ha (by decide) (by decide) hs hpl
theorem ev_max (hc : X.calm = true) (hg : Gl X "max") (hm : X.mg "max" = none) (ha : EA X T E (e :: es) fs) (hs : starEach (e :: es) X.env = (false, eval e X.env) :: starEach es X.env := by rfl) (hpl : (backTo pos (starEach es X.env)).any (·.1) = false := by rfl) : EV X T E (.Call (.Name "max" p) (e :: es) [] pos) (dAl qMax fs) :=
  ev_bi (call_max2 hc) ad_max hg hm (by decide +kernel) ha (by decide) (by decide) hs hpl
theorem ev_min (hc : X.calm = true) (hg : Gl X "min") (hm : X.mg "min" = none) (ha : EA X T E (e :: es) fs) (hs : starEach (e :: es) X.env = (false, eval e X.env) :: starEach es X.env := by rfl) (hpl : (backTo pos (starEach es X.env)).any (·.1) = false := by rfl) : EV X T E (.Call (.Name "min" p) (e :: es) [] pos) (dAl qMin fs) :=
  ev_bi (call_min2 hc) ad_min hg hm (by decide +kernel) ha (by decide) (by decide) hs hpl
theorem ev_isi (hg : Gl X "isinstance") (hm : X.mg "isinstance" = none) (ha : EA X T E (e :: es) fs) (hs : starEach (e :: es) X.env = (false, eval e X.env) :: starEach es X.env := by rfl) (hpl : (backTo pos (starEach es X.env)).any (·.1) = false := by rfl) : EV X T E (.Call (.Name "isinstance" p) (e :: es) [] pos) (dAl qIsI fs) :=
  ev_bi call_isi ad_isi hg hm (by decide +kernel) ha (by decide) (by decide) hs hpl
theorem ev_srtI (hg : Gl X "sorted") (hm : X.mg "sorted" = none) (ha : EA X T E (e :: es) fs) (hs : starEach (e :: es) X.env = (false, eval e X.env) :: starEach es X.env := by rfl) (hpl : (backTo pos (starEach es X.env)).any (·.1) = false := by rfl) : EV X T E (.Call (.Name "sorted" p) (e :: es) [] pos) (dAl qSrtI fs) :=
  ev_bi cr_sortedI ad_srtI hg hm (by decide +kernel) ha (by decide) (by decide) hs hpl
theorem ev_srtIR (hg : Gl X "sorted") (hm : X.mg "sorted" = none) (ha : EA X T E (e :: es) fs) (hs : starEach (e :: es) X.env = (false, eval e X.env) :: starEach es X.env := by rfl) (hpl : (backTo pos (starEach es X.env)).any (·.1) = false := by rfl) : EV X T E (.Call (.Name "sorted" p) (e :: es) [] pos) (dAl qSrtIR fs) :=
  ev_bi cr_sortedI ad_srtIR hg hm (by decide +kernel) ha (by decide) (by decide) hs hpl
end
end DN
set_option Elab.async false
set_option linter.all false
set_option maxRecDepth 100000
set_option maxHeartbeats 2000000
/-! DnMeth: methods of lists; stores to items. -/
namespace DN
open PySem PySem.Spec PyProof.Rows L2

/-! ### readings -/
def dM (chk : PV → Store → Bool) (d : PV → List PV → M PV) (f : DE) (g : DA) : DE := fun σ st => (f σ st).bind fun x st => if chk x st then (g σ st).bind fun xs st => d x xs st else .fail
def dM0 (chk : PV → Store → Bool) (d : PV → List PV → M PV) (f : DE) : DE := fun σ st => (f σ st).bind fun x st => if chk x st then d x [] st else .fail
def isL (p : PV) (st : Store) : Bool := (asL p st).isSome
def isS (p : PV) (_ : Store) : Bool := match p with
  | .str _ => true
  | _ => false
/-- the list that a ref names -/
def refL (p : PV) (st : Store) : Option (Nat × List PV) := match p with
  | .ref n => (match st[n]? with
    | some (.lst l) => some (n, l)
    | _ => none)
  | _ => none
def mAppend (x : PV) (xs : List PV) : M PV := fun st => match refL x st, xs with
  | some (n, l), [y] => if l.length < SZ then .ok .non (st.set n (.lst (l ++ [y]))) else .fail
  | _, _ => .fail
def mExtend (x : PV) (xs : List PV) : M PV := fun st => match refL x st, xs with
  | some (n, l), [y] => (match asL y st with
    | some m => if l.length + m.length ≤ SZ then .ok .non (st.set n (.lst (l ++ m))) else .fail
    | none => .fail)
  | _, _ => .fail
def mPop0 (x : PV) (xs : List PV) : M PV := fun st => match refL x st, xs with
  | some (n, l), [] => (match l[l.length - 1]? with
    | some y => .ok y (st.set n (.lst l.dropLast))
    | none => .fail)
  | _, _ => .fail
def mPop1 (x : PV) (xs : List PV) : M PV := fun st => match refL x st, xs with
  | some (n, l), [.int i] => if -B63 ≤ i ∧ i < B63 then (match seqIndex? i l.length with
    | some k => (match l[k]? with
      | some y => .ok y (st.set n (.lst (l.eraseIdx k)))
      | none => .fail)
    | none => .fail) else .fail
  | _, _ => .fail
where B63 : Int := 9223372036854775808
def mInsert (x : PV) (xs : List PV) : M PV := fun st => match refL x st, xs with
  | some (n, l), [.int i, y] => if l.length < SZ ∧ 0 ≤ i ∧ i < 9223372036854775808 then .ok .non (st.set n (.lst (l.insertIdx (min i.toNat l.length) y))) else .fail
  | _, _ => .fail
/-- the first place of an equal item -/
def idxD (d : PyData) : List PyData → Option Nat
  | [] => none
  | z :: r => if PyData.eqv z d then some 0 else (idxD d r).map (· + 1)
def mIndex (x : PV) (xs : List PV) : M PV := fun st => match xs with
  | [y] => (match toD x st, toD y st with
    | some (.list ds), some d => if SeqAt.shaped (.list ds) = true ∧ SeqAt.shaped d = true then (match idxD d ds with
      | some j => .ok (.int (j : Nat)) st
      | none => .fail) else .fail
    | _, _ => .fail)
  | _ => .fail
def putA {κ α : Type} [DecidableEq κ] (es : List (κ × α)) (k : κ) (v : α) : List (κ × α) :=
  if (es.any fun e => decide (e.1 = k)) = true then es.map fun e => if e.1 = k then (e.1, v) else e else es ++ [(k, v)]
/-- a[i] = v -/
def pSet (o i v : PV) : M Unit := fun st => match o with
  | .ref n => (match st[n]? with
    | some (.dK es) => (match kOf i with
      | some k => if es.length < SZ then .ok () (st.set n (.dK (putA es k v))) else .fail
      | none => .fail)
    | some (.dT es) => (match i with
      | .tup l => if isW l = true then .fail else (match kOfs l with
        | some k => if es.length < SZ then .ok () (st.set n (.dT (putA es k v))) else .fail
        | none => .fail)
      | _ => .fail)
    | some (.lst l) => (match i with
      | .int k => (match ixN l.length k with
        | some j => .ok () (st.set n (.lst (l.set j v)))
        | none => .fail)
      | _ => .fail)
    | _ => .fail)
  | _ => .fail

section
variable {X : Cx} {T : TR} {E : XK} {G : DG} {ρ : List Addr} {H : Hp} {σ : St} {aσ : AE} {st : Store}
theorem refL_eq {x : PV} {n : Nat} {l : List PV} (h : refL x st = some (n, l)) : x = .ref n ∧ st[n]? = some (.lst l) := by
  unfold refL at h
  split at h
  · split at h
    · rename_i e
      cases h
      exact ⟨rfl, e⟩
    · cases h
  · cases h
theorem refL_rl {x : PV} {v : V} {n : Nat} {l : List PV} (hS : RlS G ρ H st) (r : Rl G ρ H x v) (h : refL x st = some (n, l)) : ∃ a xs, v = .ref a ∧ ρ[n]? = some a ∧ st[n]? = some (.lst l) ∧ H a = some (.lst xs) ∧ RlAll G ρ H l xs := by
  obtain ⟨rfl, e⟩ := refL_eq h
  cases r with
  | ref q =>
    cases hS.ref q e with
    | lst hh ra => exact ⟨_, _, rfl, q, e, hh, ra⟩
/-- the list at a is changed, what follows -/
theorem post_set {Q : VK} {n : Nat} {a : Addr} {l l' : List PV} {xs xs' : List V} {p : PV} {v : V} (h : Pst G E ρ H (KV G Q) (.ok p (st.set n (.lst l')))) (hS : RlS G ρ H st) (ha : ρ[n]? = some a) (hs : st[n]? = some (.lst l)) (hh : H a = some (.lst xs))
    (rl : RlAll G ρ H l' xs') (rp : Rl G ρ H p v) : Q v (upd H a (.lst xs')) := by
  have e : Ext G.T ρ H ρ (upd H a (.lst xs')) := ext_set hS (List.mem_of_getElem? ha) hh trivial
  exact h ρ _ e (hS.set ha hs hh trivial (.lst upd_same (rl.ext e))) v (rp.ext e)
def AdqM (G : DG) (E : XK) (r : V → List V → Hp → VK → Prop) (d : PV → List PV → M PV) : Prop := ∀ ρ H st x xs v vs Q, RlS G ρ H st → Rl G ρ H x v → RlAll G ρ H xs vs → Pst G E ρ H (KV G Q) (d x xs st) → r v vs H Q
theorem isL_ty {x : PV} {v : V} (hS : RlS G ρ H st) (r : Rl G ρ H x v) (h : isL x st = true) : tyV G.K "list" v H := by
  unfold isL at h
  obtain ⟨l, e⟩ := Option.isSome_iff_exists.mp h
  obtain ⟨a, xs, rfl, rd, ra⟩ := asL_rl hS r e
  exact .inl ⟨rfl, xs, .inl rd⟩
theorem isS_ty {x : PV} {v : V} (hS : RlS G ρ H st) (r : Rl G ρ H x v) (h : isS x st = true) : tyV G.K "str" v H := by
  cases x <;> cases r <;> first | rfl | cases h
variable {o e : Expr} {es : List Expr} {fo : DE} {fs : DA} {name : Str} {apos cpos : Pos} {Ty id : String} {r : V → List V → Hp → VK → Prop} {d : PV → List PV → M PV} {chk : PV → Store → Bool}
theorem ev_m (pa : PlainAttrs Ty) (slot : Slot Ty name id) (hty : typeOf (.builtin id) = pure (.type "method_descriptor")) (hm : MtR X id r) (hk : ∀ ρ H st x v, RlS (gOf X T) ρ H st → Rl (gOf X T) ρ H x v → chk x st = true → tyV X.K Ty v H) (ad : AdqM (gOf X T) E r d) (ho : EV X T E o fo) (ha : EA X T E (e :: es) fs)
    (hbase : attributeBase o name X.env (eval o X.env) = eval o X.env := by rfl)
    (hfew : ((backTo cpos (starEach (e :: es) X.env)).all (fun x => !x.1) && (backToKw cpos (keywordEach [] X.env)).all (fun x => x.1.isSome)
      && decide ((e :: es).length + ([] : List Keyword).length + (if ([] : List Keyword).isEmpty then 0 else 1) < 30)) = true := by rfl)
    (hline : (apos.endLine == cpos.line) = true := by rfl) (hs : starEach (e :: es) X.env = (false, eval e X.env) :: starEach es X.env := by rfl) (hplain : (backTo cpos (starEach es X.env)).any (·.1) = false := by rfl) :
    EV X T E (.Call (.Attribute o name apos) (e :: es) [] cpos) (dM chk d fo fs) := pe_imp (pe_bm pa slot hty hm ho ha hbase hfew hline hs hplain) fun σ H Q q => by
  obtain ⟨ρ, aσ, st, hE, hS, h⟩ := q
  refine tv_bind hE hS h fun ρ1 H1 x v st1 _ s1 e1 rx h => ?_
  split at h
  · rename_i hc
    exact ⟨hk _ _ _ _ _ s1 rx hc, ta_bind e1 s1 h fun ρ2 H2 xs vs st2 x2 s2 _ rs h => ad ρ2 H2 st2 x xs v vs Q s2 (rx.ext x2) rs h⟩
  · exact h.elim
theorem ev_m0 (pa : PlainAttrs Ty) (slot : Slot Ty name id) (hty : typeOf (.builtin id) = pure (.type "method_descriptor")) (hm : MtR X id r) (hk : ∀ ρ H st x v, RlS (gOf X T) ρ H st → Rl (gOf X T) ρ H x v → chk x st = true → tyV X.K Ty v H) (ad : AdqM (gOf X T) E r d) (ho : EV X T E o fo)
    (hbase : attributeBase o name X.env (eval o X.env) = eval o X.env := by rfl) (hline : (apos.endLine == cpos.line) = true := by rfl) :
    EV X T E (.Call (.Attribute o name apos) [] [] cpos) (dM0 chk d fo) := pe_imp (pe_bm0 pa slot hty hm ho hbase hline) fun σ H Q q => by
  obtain ⟨ρ, aσ, st, hE, hS, h⟩ := q
  refine tv_bind hE hS h fun ρ1 H1 x v st1 _ s1 e1 rx h => ?_
  split at h
  · rename_i hc
    exact ⟨hk _ _ _ _ _ s1 rx hc, ad ρ1 H1 st1 x [] v [] Q s1 rx .nil h⟩
  · exact h.elim
/-! ### append, extend, pop, insert, index -/
theorem ad_append : AdqM G E rAppend mAppend := fun ρ H st x xs v vs Q hS rx rs h => by
  unfold mAppend at h
  split at h
  · rename_i n l y e
    split at h
    · rename_i hz
      obtain ⟨a, zs, rfl, ha, hs, hh, ra⟩ := refL_rl hS rx e
      obtain ⟨w, rfl, ry⟩ := all1 rs
      exact ⟨a, zs, w, rfl, rfl, hh, by rw [SZ_eq, ← ra.length]; exact hz, post_set h hS ha hs hh (ra.append (.cons ry .nil)) .non⟩
    · exact h.elim
  · exact h.elim
/-- xs.extend(ys), ys a list that is read -/
def rExtR : V → List V → Hp → VK → Prop := fun x vs H Q => ∃ l b xs zs, x = .ref l ∧ vs = [.ref b] ∧ H l = some (.lst xs) ∧ Rd H b (.lst zs) ∧ xs.length + zs.length ≤ sizeLine ∧ Q .non (upd H l (.lst (xs ++ zs)))
theorem mt_extR : MtM X "list.extend" rExtR := by
  intro pins s σ H x vs v us Q I rx rv h
  obtain ⟨l, b, xs, zs, rfl, rfl, hH, hB, hz, q⟩ := h
  obtain ⟨u, rfl, ru⟩ := rv.one
  cases rx
  cases ru
  obtain ⟨z, its, n, r, hl, e⟩ := I.lstM hH
  obtain ⟨z2, its2, n2, r2, hl2, e2⟩ := inv_lst I hB
  have hsz : its.toArray.size + its2.toArray.size ≤ sizeLine := by simp only [List.size_toArray]; omega
  have hlong : ¬ (!its.toArray.isEmpty && Builtin.List.listTooLong (its.toArray.size + its2.toArray.size)) = true := by
    rw [notLongL hsz]
    simp
  refine call_meets F.slot_list_extend ⟨_, e, rfl⟩ F.entry_list_extend (F.args_list_extend_2 _ _)
    (AutoSeq1.list_extend_list_list_0 l its.toArray n b its2.toArray n2 hlong (by simp only [List.size_toArray]; omega) (by omega)) ⟨e, e2, ?_⟩
  exact ⟨.non, _, I.lset (its' := its ++ its2) hH e (by simp) (r.append r2) (by rw [List.length_append]; omega), rfl, q⟩
theorem ad_extend : AdqM G E rExtR mExtend := fun ρ H st x xs v vs Q hS rx rs h => by
  unfold mExtend at h
  split at h
  · rename_i n l y e
    split at h
    · rename_i m e2
      split at h
      · rename_i hz
        obtain ⟨a, zs, rfl, ha, hs, hh, ra⟩ := refL_rl hS rx e
        obtain ⟨w, rfl, ry⟩ := all1 rs
        obtain ⟨b, ys, rfl, rd, rb⟩ := asL_rl hS ry e2
        exact ⟨a, b, zs, ys, rfl, rfl, hh, rd, by rw [SZ_eq, ← ra.length, ← rb.length]; exact hz, post_set h hS ha hs hh (ra.append rb) .non⟩
      · exact h.elim
    · exact h.elim
  · exact h.elim
theorem RlAll.dropLast {l : List PV} {xs : List V} (r : RlAll G ρ H l xs) : RlAll G ρ H l.dropLast xs.dropLast := by
  rw [List.dropLast_eq_take, List.dropLast_eq_take, r.length]
  exact r.take _
theorem ad_pop0 : AdqM G E rPop mPop0 := fun ρ H st x xs v vs Q hS rx rs h => by
  unfold mPop0 at h
  split at h
  · rename_i n l e
    split at h
    · rename_i y e2
      obtain ⟨a, zs, rfl, ha, hs, hh, ra⟩ := refL_rl hS rx e
      cases rs
      obtain ⟨w, e3, rw3⟩ := ra.get e2
      rw [ra.length] at e3
      exact ⟨a, zs, w, rfl, rfl, hh, e3, post_set h hS ha hs hh ra.dropLast rw3⟩
    · exact h.elim
  · exact h.elim
theorem ad_pop1 : AdqM G E rPopAt mPop1 := fun ρ H st x xs v vs Q hS rx rs h => by
  unfold mPop1 at h
  split at h
  · rename_i n l i e
    split at h
    · rename_i hz
      split at h
      · rename_i k ek
        split at h
        · rename_i y e2
          obtain ⟨a, zs, rfl, ha, hs, hh, ra⟩ := refL_rl hS rx e
          obtain ⟨w, rfl, ry⟩ := all1 rs
          cases ry
          obtain ⟨w, e3, rw3⟩ := ra.get e2
          exact ⟨a, zs, i, k, w, rfl, rfl, hh, hz.1, hz.2, by rw [← ra.length]; exact ek, e3, post_set h hS ha hs hh (ra.eraseIdx k) rw3⟩
        · exact h.elim
      · exact h.elim
    · exact h.elim
  · exact h.elim
theorem idxD_some {d : PyData} : ∀ {ds : List PyData} {j : Nat}, idxD d ds = some j → ∃ z, ds[j]? = some z ∧ PyData.eqv z d = true ∧ ∀ (m : Nat) (z' : PyData), m < j → ds[m]? = some z' → PyData.eqv z' d = false
  | [], _, h => by simp [idxD] at h
  | z :: r, j, h => by
    unfold idxD at h
    split at h
    · rename_i hz
      cases h
      exact ⟨z, rfl, hz, fun m _ hm => absurd hm (Nat.not_lt_zero _)⟩
    · rename_i hz
      obtain ⟨k, e, rfl⟩ := Option.map_eq_some_iff.mp h
      obtain ⟨w, h1, h2, h3⟩ := idxD_some e
      refine ⟨w, h1, h2, fun m z' hm hz' => ?_⟩
      cases m with
      | zero => simp at hz'; subst hz'; simpa using hz
      | succ m => exact h3 m z' (by omega) (by simpa using hz')
theorem ad_index : AdqM G E (rIndexD G.K) mIndex := fun ρ H st x xs v vs Q hS rx rs h => by
  unfold mIndex at h
  split at h
  · rename_i y
    split at h
    · rename_i ds d e1 e2
      split at h
      · rename_i hs
        split at h
        · rename_i j e3
          obtain ⟨w, rfl, ry⟩ := all1 rs
          obtain ⟨z, h1, h2, h3⟩ := idxD_some e3
          have q := toD_dp hS e1 rx
          cases q with
          | lst q1 q2 => exact ⟨_, w, d, ds, j, z, rfl, rfl, .lst q1 q2, toD_dp hS e2 ry, hs.1, hs.2, h1, h2, h3, post_val h hS (.int _)⟩
        · exact h.elim
      · exact h.elim
    · exact h.elim
  · exact h.elim
theorem ev_append (ho : EV X T E o fo) (ha : EV X T E e (f : DE)) (hbase : attributeBase o "append" X.env (eval o X.env) = eval o X.env := by rfl)
    (hfew : ((backTo cpos (starEach [e] X.env)).all (fun x => !x.1) && (backToKw cpos (keywordEach [] X.env)).all (fun x => x.1.isSome)
      && decide ([e].length + ([] : List Keyword).length + (if ([] : List Keyword).isEmpty then 0 else 1) < 30)) = true := by rfl) (hline : (apos.endLine == cpos.line) = true := by rfl) (hs : starEach [e] X.env = (false, eval e X.env) :: starEach [] X.env := by rfl) (hplain : (backTo cpos (starEach [] X.env)).any (·.1) = false := by rfl) :
    EV X T E (.Call (.Attribute o "append" apos) [e] [] cpos) (dM isL mAppend fo (dAc f dA0)) :=
  ev_m PySem.F.plainAttrs_list PySem.F.slot_list_append PySem.F.type_list_append mt_append (fun _ _ _ _ _ => isL_ty) ad_append ho (ea_cons ha ea_nil hs) hbase hfew hline hs hplain
theorem ev_extend (ho : EV X T E o fo) (ha : EV X T E e (f : DE)) (hbase : attributeBase o "extend" X.env (eval o X.env) = eval o X.env := by rfl)
    (hfew : ((backTo cpos (starEach [e] X.env)).all (fun x => !x.1) && (backToKw cpos (keywordEach [] X.env)).all (fun x => x.1.isSome)
      && decide ([e].length + ([] : List Keyword).length + (if ([] : List Keyword).isEmpty then 0 else 1) < 30)) = true := by rfl) (hline : (apos.endLine == cpos.line) = true := by rfl) (hs : starEach [e] X.env = (false, eval e X.env) :: starEach [] X.env := by rfl) (hplain : (backTo cpos (starEach [] X.env)).any (·.1) = false := by rfl) :
    EV X T E (.Call (.Attribute o "extend" apos) [e] [] cpos) (dM isL mExtend fo (dAc f dA0)) :=
  ev_m PySem.F.plainAttrs_list PySem.F.slot_list_extend PySem.F.type_list_extend mt_extR (fun _ _ _ _ _ => isL_ty) ad_extend ho (ea_cons ha ea_nil hs) hbase hfew hline hs hplain
theorem ev_pop1 (ho : EV X T E o fo) (ha : EV X T E e (f : DE)) (hbase : attributeBase o "pop" X.env (eval o X.env) = eval o X.env := by rfl)
    (hfew : ((backTo cpos (starEach [e] X.env)).all (fun x => !x.1) && (backToKw cpos (keywordEach [] X.env)).all (fun x => x.1.isSome)
      && decide ([e].length + ([] : List Keyword).length + (if ([] : List Keyword).isEmpty then 0 else 1) < 30)) = true := by rfl) (hline : (apos.endLine == cpos.line) = true := by rfl) (hs : starEach [e] X.env = (false, eval e X.env) :: starEach [] X.env := by rfl) (hplain : (backTo cpos (starEach [] X.env)).any (·.1) = false := by rfl) :
    EV X T E (.Call (.Attribute o "pop" apos) [e] [] cpos) (dM isL mPop1 fo (dAc f dA0)) :=
  ev_m PySem.F.plainAttrs_list PySem.F.slot_list_pop PySem.F.type_list_pop mt_popAt (fun _ _ _ _ _ => isL_ty) ad_pop1 ho (ea_cons ha ea_nil hs) hbase hfew hline hs hplain
theorem ev_pop0 (ho : EV X T E o fo) (hbase : attributeBase o "pop" X.env (eval o X.env) = eval o X.env := by rfl) (hline : (apos.endLine == cpos.line) = true := by rfl) :
    EV X T E (.Call (.Attribute o "pop" apos) [] [] cpos) (dM0 isL mPop0 fo) :=
  ev_m0 PySem.F.plainAttrs_list PySem.F.slot_list_pop PySem.F.type_list_pop mt_pop (fun _ _ _ _ _ => isL_ty) ad_pop0 ho hbase hline
theorem ev_index (hu : X.A.units + 65 < cLine) (ho : EV X T E o fo) (ha : EV X T E e (f : DE)) (hbase : attributeBase o "index" X.env (eval o X.env) = eval o X.env := by rfl)
    (hfew : ((backTo cpos (starEach [e] X.env)).all (fun x => !x.1) && (backToKw cpos (keywordEach [] X.env)).all (fun x => x.1.isSome)
      && decide ([e].length + ([] : List Keyword).length + (if ([] : List Keyword).isEmpty then 0 else 1) < 30)) = true := by rfl) (hline : (apos.endLine == cpos.line) = true := by rfl) (hs : starEach [e] X.env = (false, eval e X.env) :: starEach [] X.env := by rfl) (hplain : (backTo cpos (starEach [] X.env)).any (·.1) = false := by rfl) :
    EV X T E (.Call (.Attribute o "index" apos) [e] [] cpos) (dM isL mIndex fo (dAc f dA0)) :=
  ev_m PySem.F.plainAttrs_list PySem.F.slot_list_index PySem.F.type_list_index (mt_indexD hu) (fun _ _ _ _ _ => isL_ty) ad_index ho (ea_cons ha ea_nil hs) hbase hfew hline hs hplain
end
end DN
set_option Elab.async false
set_option linter.all false
set_option maxRecDepth 100000
set_option maxHeartbeats 2000000
/-! DnStmt: statements, loops. -/
namespace DN
open PySem PySem.Spec PyProof.Rows L2

/-! ### readings -/
abbrev DT := PV → AE → M AE
abbrev DTs := List PV → AE → M AE
def tName (i : Nat) : DT := fun p σ st => .ok (σ.set i (some p)) st
def tNil : DTs := fun ps σ st => match ps with
  | [] => .ok σ st
  | _ => .fail
def tCons (t : DT) (ts : DTs) : DTs := fun ps σ st => match ps with
  | p :: r => (t p σ st).bind fun σ st => ts r σ st
  | [] => .fail
def tTupP (n : Nat) (ts : DTs) : DT := fun p σ st => match p with
  | .tup l => if l.length = n then ts l σ st else .fail
  | _ => .fail
def tSub (fo fi : DE) : DT := fun p σ st => (fo σ st).bind fun o st => (fi σ st).bind fun i st => (pSet o i p st).bind fun _ st => .ok σ st
def sNext : DS := fun σ st => .ok (.nx, σ) st
def sBreak : DS := fun σ st => .ok (.bk, σ) st
def sCont : DS := fun σ st => .ok (.ct, σ) st
def sSeq (a b : DS) : DS := fun σ st => (a σ st).bind fun r st => match r with
  | (.nx, σ) => b σ st
  | r => .ok r st
def sExpr (f : DE) : DS := fun σ st => (f σ st).bind fun _ st => .ok (.nx, σ) st
def sRet (f : DE) : DS := fun σ st => (f σ st).bind fun v st => .ok (.rt v, σ) st
def sRetN : DS := fun σ st => .ok (.rt .non, σ) st
def sIf (c : DB) (a b : DS) : DS := fun σ st => (c σ st).bind fun k st => if k then a σ st else b σ st
def sAsg (f : DE) (t : DT) : DS := fun σ st => (f σ st).bind fun p st => (t p σ st).bind fun σ st => .ok (.nx, σ) st
def sPar (i j : Nat) (f : DA) : DS := fun σ st => (f σ st).bind fun ps st => match ps with
  | [p, q] => .ok (.nx, (σ.set i (some p)).set j (some q)) st
  | _ => .fail
def sPar3 (i j k : Nat) (f : DA) : DS := fun σ st => (f σ st).bind fun ps st => match ps with
  | [p, q, r] => .ok (.nx, ((σ.set i (some p)).set j (some q)).set k (some r)) st
  | _ => .fail
/-- what is stored at these slots is forgotten -/
def wipeA (σ : AE) : List Nat → AE
  | [] => σ
  | i :: r => wipeA (σ.set i none) r
/-- turns over these items; w: what is forgotten behind a turn -/
def forL (t : DT) (b : DS) (w : List Nat) (okS : Store → Bool) : List PV → DS
  | [], σ, st => if okS st then .ok (.nx, wipeA σ w) st else .fail
  | p :: r, σ, st => if okS st then (t p σ st).bind fun σ st => (b σ st).bind fun r' st => match r' with
    | (.nx, σ) => forL t b w okS r (wipeA σ w) st
    | (.ct, σ) => forL t b w okS r (wipeA σ w) st
    | (.bk, σ) => .ok (.nx, wipeA σ w) st
    | (.rt v, σ) => .ok (.rt v, σ) st
    else .fail
abbrev Src := List PV × (Store → Bool)
abbrev DI := AE → M Src
def sFor (s : DI) (t : DT) (b : DS) (w : List Nat) : DS := fun σ st => (s σ st).bind fun r st => forL t b w r.2 r.1 σ st
def whileN (c : DB) (b : DS) (w : List Nat) : Nat → DS
  | 0, _, _ => .fail
  | n + 1, σ, st => (c σ st).bind fun k st => if k then (b σ st).bind fun r' st => match r' with
    | (.nx, σ) => whileN c b w n (wipeA σ w) st
    | (.ct, σ) => whileN c b w n (wipeA σ w) st
    | (.bk, σ) => .ok (.nx, wipeA σ w) st
    | (.rt v, σ) => .ok (.rt v, σ) st
    else .ok (.nx, σ) st
open Classical in
noncomputable def sWhile (c : DB) (b : DS) (w : List Nat) : DS := fun σ st => if h : ∃ n, whileN c b w n σ st ≠ .fail then whileN c b w (Classical.choose h) σ st else .fail

/-! sources -/
open Classical in
noncomputable def srcOf (p : PV) : M Src := fun st => match p with
  | .tup l => .ok (l, fun _ => true) st
  | .lst l => .ok (l, fun _ => true) st
  | .ref n => (match st[n]? with
    | some (.lst l) => .ok (l, fun st => decide (st[n]? = some (.lst l))) st
    | _ => .fail)
  | .str z => .ok (z.cps.toList.map fun c => .str ⟨#[c]⟩, fun _ => true) st
  | _ => .fail
noncomputable def iSeq (f : DE) : DI := fun σ st => (f σ st).bind fun p st => srcOf p st
/-- a < 2 ^ 62 .. -/
def rgOk (i : Int) : Bool := decide (-4611686018427387904 ≤ i ∧ i < 4611686018427387904)
def iRg1 (f : DE) : DI := fun σ st => (f σ st).bind fun p st => match p with
  | .int n => if rgOk n then .ok (rgP 0 n, fun _ => true) st else .fail
  | _ => .fail
def iRg2 (f g : DE) : DI := fun σ st => (f σ st).bind fun p st => (g σ st).bind fun q st => match p, q with
  | .int a, .int b => if rgOk a && rgOk b then .ok (rgP a b, fun _ => true) st else .fail
  | _, _ => .fail
def numbered : Nat → List PV → List PV
  | _, [] => []
  | i, p :: r => .tup [.int i, p] :: numbered (i + 1) r

section
variable {X : Cx} {T : TR} {E : XK} {G : DG} {ρ : List Addr} {H : Hp} {σ : St} {aσ : AE} {st : Store}
variable {a b c e : Expr} {fa fb fc f : DE} {pos : Pos}
theorem RlE.set {i : Nat} {p : PV} {v : V} (hE : RlE G ρ H aσ σ) (r : Rl G ρ H p v) : RlE G ρ H (aσ.set i (some p)) (σ.set i (some v)) := by
  refine ⟨by simp [hE.len], fun j q h => ?_⟩
  by_cases e : i = j
  · subst e
    have hi : i < (aσ.set i (some p)).length := (List.getElem?_eq_some_iff.mp h).1
    rw [List.length_set] at hi
    rw [List.getElem?_set_self hi] at h
    cases h
    exact ⟨v, by rw [List.getElem?_set_self (by rw [← hE.len]; exact hi)], r⟩
  · rw [List.getElem?_set_ne e] at h
    obtain ⟨u, h1, h2⟩ := hE.at_ j q h
    exact ⟨u, by rw [List.getElem?_set_ne e]; exact h1, h2⟩
theorem RlE.wipe (w : List Nat) : ∀ {aσ : AE}, RlE G ρ H aσ σ → RlE G ρ H (wipeA aσ w) σ := by
  induction w with
  | nil => exact fun h => h
  | cons i r ih =>
    intro aσ h
    refine ih ⟨by simp [h.len], fun j p hp => ?_⟩
    by_cases e : i = j
    · subst e
      have hi : i < (aσ.set i none).length := (List.getElem?_eq_some_iff.mp hp).1
      rw [List.length_set] at hi
      rw [List.getElem?_set_self hi] at hp
      cases hp
    · rw [List.getElem?_set_ne e] at hp
      exact h.at_ j p hp

/-! ### targets -/
def Tg (G : DG) (E : XK) (f : DT) : TG := fun v σ H Q => ∃ ρ aσ st p, RlE G ρ H aσ σ ∧ RlS G ρ H st ∧ Rl G ρ H p v ∧ Pst G E ρ H (fun aσ' _ ρ' H' => ∀ σ', RlE G ρ' H' aσ' σ' → Q σ' H') (f p aσ st)
def Tgs (G : DG) (E : XK) (f : DTs) : TGs := fun vs σ H Q => ∃ ρ aσ st ps, RlE G ρ H aσ σ ∧ RlS G ρ H st ∧ RlAll G ρ H ps vs ∧ Pst G E ρ H (fun aσ' _ ρ' H' => ∀ σ', RlE G ρ' H' aσ' σ' → Q σ' H') (f ps aσ st)
def EG (X : Cx) (T : TR) (E : XK) (tg : Expr) (f : DT) : Prop := PG X tg (Tg (gOf X T) E f)
def EGs (X : Cx) (T : TR) (E : XK) (tg : List Expr) (f : DTs) : Prop := PGs X tg (Tgs (gOf X T) E f)
theorem pg_imp {tg : Expr} {t t' : TG} (h : PG X tg t) (i : ∀ v σ H Q, t' v σ H Q → t v σ H Q) : PG X tg t' := ⟨fun pins s σ H v u Q I r q => h.run pins s σ H v u Q I r (i v σ H Q q)⟩
theorem pgs_imp {tg : List Expr} {t t' : TGs} (h : PGs X tg t) (i : ∀ v σ H Q, t' v σ H Q → t v σ H Q) : PGs X tg t' := ⟨fun pins s σ H v u Q I r q => h.run pins s σ H v u Q I r (i v σ H Q q)⟩
theorem eg_name (i : Nat) {x : Str} (hN : X.N.Nodup) (hi : X.N[i]? = some x := by rfl) (hx : Loc X.env.scope x := by first | exact Or.inl rfl | exact Or.inr rfl) (hf : X.fn x = true ∨ X.env.scope.names.lookup x = some .local := by first | exact .inl rfl | exact .inr rfl) : EG X T E (.Name x pos) (tName i) := pg_imp (pg_name hN hi hx hf) fun v σ H Q q => by
  obtain ⟨ρ, aσ, st, p, hE, hS, r, h⟩ := q
  exact h.ret hS _ (hE.set r)
theorem egs_nil : EGs X T E [] tNil := pgs_imp pgs_nil fun vs σ H Q q => by
  obtain ⟨ρ, aσ, st, ps, hE, hS, r, h⟩ := q
  unfold tNil at h
  split at h
  · cases r; exact ⟨rfl, h.ret hS _ hE⟩
  · exact h.elim
theorem tg_bind {β : Type} {t : DT} {p : PV} {v : V} {k : AE → Store → Res β} {K : β → Store → List Addr → Hp → Prop} {W : St → Hp → Prop} (hE : RlE G ρ H aσ σ) (hS : RlS G ρ H st) (r : Rl G ρ H p v) (h : Pst G E ρ H K ((t p aσ st).bind k))
    (q : ∀ ρ1 H1 aσ1 σ1 st1, Ext G.T ρ H ρ1 H1 → RlS G ρ1 H1 st1 → RlE G ρ1 H1 aσ1 σ1 → Pst G E ρ1 H1 K (k aσ1 st1) → W σ1 H1) : Tg G E t v σ H W :=
  ⟨ρ, aσ, st, p, hE, hS, r, h.bind.imp fun a st1 ρ1 H1 _ _ z σ' e => q ρ1 H1 a σ' st1 z.1 z.2.1 e z.2.2⟩
theorem egs_cons {tg : Expr} {tgs : List Expr} {t : DT} {ts : DTs} (h1 : EG X T E tg t) (h2 : EGs X T E tgs ts) (hs : (assignEach (tg :: tgs) X.env).map (·.2) = assign tg X.env :: (assignEach tgs X.env).map (·.2) := by rfl) : EGs X T E (tg :: tgs) (tCons t ts) :=
  pgs_imp (pgs_cons h1 h2 hs) fun vs σ H Q q => by
  obtain ⟨ρ, aσ, st, ps, hE, hS, r, h⟩ := q
  cases r with
  | nil => exact h.elim
  | cons r rs =>
    exact ⟨_, _, rfl, tg_bind hE hS r h fun ρ1 H1 aσ1 σ1 st1 x1 s1 e1 h => ⟨ρ1, aσ1, st1, _, e1, s1, rs.ext x1, h⟩⟩
theorem eg_tup {tgs : List Expr} {ts : DTs} {k : Nat} {n : Nat} (hc : X.calm = true) (h : EGs X T E tgs ts) (hn : (assignEach tgs X.env).length = n := by rfl) (hst : (assignEach tgs X.env).findIdx? (·.1) = none := by rfl) : EG X T E (.Tuple tgs k pos) (tTupP n ts) :=
  pg_imp (pg_tup hc h hn hst) fun v σ H Q q => by
  obtain ⟨ρ, aσ, st, p, hE, hS, r, h⟩ := q
  unfold tTupP at h
  split at h
  · split at h
    · rename_i l hl
      cases r with
      | tup q ra => exact ⟨_, _, rfl, q.sq, by rw [← ra.length]; exact hl, ρ, aσ, st, l, hE, hS, ra, h⟩
    · exact h.elim
  · exact h.elim
/-- a store to an item, by values -/
def rSetA : V → V → V → Hp → (Hp → Prop) → Prop := fun o i v H Q => rSetL o i v H Q ∨ ∃ a H', o = .ref a ∧ DPut H a i v H' ∧ Q H'
theorem set_all (hu : X.A.units + 65 < cLine) : PSet X rSetA := by
  intro pins s σ H o i v ov iv u Q I ro ri rv h
  rcases h with h | ⟨a, H', rfl, g, q⟩
  · exact set_list pins s σ H o i v ov iv u Q I ro ri rv h
  · cases ro
    exact d_setItem (by omega) I g ri rv fun s' I' => ⟨H', I', q⟩
theorem any_keys {κ α β : Type} [DecidableEq κ] (k : κ) : ∀ (es : List (κ × α)) (kvs : List (κ × β)), es.map (·.1) = kvs.map (·.1) → (es.any fun e => decide (e.1 = k)) = kvs.any fun e => decide (e.1 = k)
  | [], [], _ => rfl
  | [], _ :: _, h => by cases h
  | _ :: _, [], h => by cases h
  | (a, x) :: es, (b, y) :: kvs, h => by
    simp only [List.map_cons, List.cons.injEq] at h
    obtain ⟨rfl, h⟩ := h
    simp only [List.any_cons, any_keys k es kvs h]
theorem put_rl {κ : Type} [DecidableEq κ] (k : κ) {p : PV} {v : V} (r : Rl G ρ H p v) {es : List (κ × PV)} {kvs : List (κ × V)} (hk : es.map (·.1) = kvs.map (·.1)) (ra : RlAll G ρ H (es.map (·.2)) (kvs.map (·.2))) :
    (putA es k p).map (·.1) = (putK kvs k v).map (·.1) ∧ RlAll G ρ H ((putA es k p).map (·.2)) ((putK kvs k v).map (·.2)) := by
  unfold putA putK
  rw [any_keys k es kvs hk]
  split
  · rename_i hany
    clear hany
    induction es generalizing kvs with
    | nil =>
      cases kvs with
      | nil => exact ⟨rfl, .nil⟩
      | cons _ _ => cases hk
    | cons e es ih =>
      cases kvs with
      | nil => cases hk
      | cons f kvs =>
        obtain ⟨a, x⟩ := e
        obtain ⟨b, y⟩ := f
        simp only [List.map_cons, List.cons.injEq] at hk
        obtain ⟨rfl, hk⟩ := hk
        simp only [List.map_cons] at ra
        cases ra with
        | cons r1 r2 =>
          obtain ⟨h1, h2⟩ := ih hk r2
          simp only [List.map_cons]
          refine ⟨?_, ?_⟩
          · rw [h1]
            split <;> rfl
          · split
            · exact .cons r h2
            · exact .cons r1 h2
  · simp only [List.map_append, List.map_cons, List.map_nil]
    exact ⟨by rw [hk], ra.append (.cons r .nil)⟩
theorem set_rl {o i p : PV} {ov iv v : V} {W : Hp → Prop} (hS : RlS G ρ H st) (ro : Rl G ρ H o ov) (ri : Rl G ρ H i iv) (rp : Rl G ρ H p v)
    (h : Pst G E ρ H (fun _ st' ρ' H' => Ext G.T ρ H ρ' H' → W H') (pSet o i p st)) : rSetA ov iv v H W := by
  unfold pSet at h
  split at h
  · rename_i n
    split at h
    · rename_i es e
      split at h
      · rename_i k ek
        split at h
        · rename_i hz
          cases ro with
          | @ref _ a q =>
            cases hS.ref q e with
            | @dK _ _ kvs hh hk ra =>
              have z := congrArg List.length hk
              simp only [List.length_map] at z
              have x : Ext G.T ρ H ρ (upd H a (.dK (putK kvs k v))) := ext_set hS (List.mem_of_getElem? q) hh trivial
              obtain ⟨h1, h2⟩ := put_rl k rp hk ra
              refine .inr ⟨_, _, rfl, .inl ⟨kvs, k, hh, kOf_v ek ri, by rw [SZ_eq, ← z]; exact hz, rfl⟩, h ρ _ x (hS.set q e hh trivial (.dK upd_same h1 (h2.ext x))) x⟩
        · exact h.elim
      · exact h.elim
    · rename_i es e
      split at h
      · split at h
        · exact h.elim
        · rename_i hw
          split at h
          · rename_i k ek
            split at h
            · rename_i hz
              cases ro with
              | @ref _ a q =>
                cases hS.ref q e with
                | @dT _ _ kvs hh hk ra =>
                  have z := congrArg List.length hk
                  simp only [List.length_map] at z
                  obtain ⟨b, rfl, hb⟩ := tv_key (by simpa using hw) ek ri
                  have x : Ext G.T ρ H ρ (upd H a (.dT (putK kvs k v))) := ext_set hS (List.mem_of_getElem? q) hh trivial
                  obtain ⟨h1, h2⟩ := put_rl k rp hk ra
                  refine .inr ⟨_, _, rfl, .inr ⟨kvs, k, b, hh, rfl, hb, by rw [SZ_eq, ← z]; exact hz, rfl⟩, h ρ _ x (hS.set q e hh trivial (.dT upd_same h1 (h2.ext x))) x⟩
            · exact h.elim
          · exact h.elim
      · exact h.elim
    · rename_i l e
      split at h
      · rename_i k
        cases ri
        split at h
        · rename_i j ej
          cases ro with
          | @ref _ a q =>
            cases hS.ref q e with
            | @lst _ _ xs hh ra =>
              have x : Ext G.T ρ H ρ (upd H a (.lst (xs.set j v))) := ext_set hS (List.mem_of_getElem? q) hh trivial
              refine .inl ⟨_, xs, k, j, rfl, rfl, hh, by rw [← ra.length]; exact ej, h ρ _ x (hS.set q e hh trivial (.lst upd_same ((ra.set rp j).ext x))) x⟩
        · exact h.elim
      · exact h.elim
    · exact h.elim
  · exact h.elim
theorem eg_sub {o i : Expr} {fo fi : DE} (hu : X.A.units + 65 < cLine) (ho : EV X T E o fo) (hi : EV X T E i fi)
    (ha : ∀ v, assign (.Subscript o i pos) X.env v = (holding [v] (eval o X.env) >>= fun ov => holding [v, ov] (eval i X.env) >>= fun iv => standAt pos >>= fun _ => holding [v, ov, iv] (setItem ov iv v) >>= fun _ => release [v, ov, iv] []) := by intro _; rfl) :
    EG X T E (.Subscript o i pos) (tSub fo fi) := pg_imp (pg_sub ho hi (set_all hu) ha) fun v σ H Q q => by
  obtain ⟨ρ, aσ, st, p, hE, hS, r, h⟩ := q
  refine tv_bind hE hS h fun ρ1 H1 x ov st1 x1 s1 e1 rx h => tv_bind e1 s1 h fun ρ2 H2 y iv st2 x2 s2 e2 ry h => ?_
  refine set_rl s2 (rx.ext x2) ry ((r.ext x1).ext x2) (h.bind.imp fun _ st3 ρ3 H3 _ _ z x3 => ?_)
  exact z.2.2.ret z.2.1 _ (e2.ext x3)

/-! ### statements -/
variable {s : Stmt} {ss : List Stmt} {g h : DS} {cb : DB}
theorem es_pass : ES X T E (.Pass pos) sNext := ps_imp ps_pass fun D σ H q => by
  obtain ⟨ρ, aσ, st, hE, hS, h⟩ := q
  exact h.ret hS _ hE
theorem es_break : ES X T E (.Break pos) sBreak := ps_imp ps_break fun D σ H q => by
  obtain ⟨ρ, aσ, st, hE, hS, h⟩ := q
  exact h.ret hS _ hE
theorem es_cont : ES X T E (.Continue pos) sCont := ps_imp ps_continue fun D σ H q => by
  obtain ⟨ρ, aσ, st, hE, hS, h⟩ := q
  exact h.ret hS _ hE
theorem es_doc {x j pos'} : ES X T E (.Expr (.Constant (.str x) j pos) pos') sNext := ps_imp ps_doc fun D σ H q => by
  obtain ⟨ρ, aσ, st, hE, hS, h⟩ := q
  exact h.ret hS _ hE
theorem ess_nil : ESs X T E [] sNext := pss_imp pss_nil fun D σ H q => by
  obtain ⟨ρ, aσ, st, hE, hS, h⟩ := q
  exact h.ret hS _ hE
theorem ts_seq {D : Ends} (q : Ts G E (sSeq g h) D σ H) : Ts G E g { D with nx := Ts G E h D } σ H := by
  obtain ⟨ρ, aσ, st, hE, hS, h⟩ := q
  refine ⟨ρ, aσ, st, hE, hS, h.bind.imp fun r st1 ρ1 H1 _ _ z σ1 e1 => ?_⟩
  obtain ⟨x1, s1, z⟩ := z
  obtain ⟨fl, aσ1⟩ := r
  cases fl with
  | nx => exact ⟨ρ1, aσ1, st1, e1, s1, z⟩
  | bk => exact z.ret s1 σ1 e1
  | ct => exact z.ret s1 σ1 e1
  | rt v => exact z.ret s1 σ1 e1
theorem ess_cons (h1 : ES X T E s g) (h2 : ESs X T E ss h) : ESs X T E (s :: ss) (sSeq g h) := pss_imp (pss_cons h1 h2) fun D σ H q => ts_seq q
theorem ess_one (h1 : ES X T E s g) : ESs X T E [s] g := pss_one h1
theorem es_expr (ha : EV X T E a fa) (hs : swapsWith a none pos.line X.env = pure false := by rfl) : ES X T E (.Expr a pos) (sExpr fa) := ps_imp (ps_expr ha hs) fun D σ H q => by
  obtain ⟨ρ, aσ, st, hE, hS, h⟩ := q
  exact tv_bind hE hS h fun ρ1 H1 x v st1 x1 s1 e1 rx h => h.ret s1 _ e1
theorem es_ret (ha : EV X T E a fa) : ES X T E (.Return (some a) pos) (sRet fa) := ps_imp (ps_ret ha) fun D σ H q => by
  obtain ⟨ρ, aσ, st, hE, hS, h⟩ := q
  exact tv_bind hE hS h fun ρ1 H1 x v st1 x1 s1 e1 rx h => h.ret s1 _ e1 v rx
theorem es_retN : ES X T E (.Return none pos) sRetN := ps_imp ps_retN fun D σ H q => by
  obtain ⟨ρ, aσ, st, hE, hS, h⟩ := q
  exact h.ret hS _ hE .non .non
theorem es_if {sa sb : List Stmt} (hc : EB X T E c cb) (ha : ESs X T E sa g) (hb : ESs X T E sb h) : ES X T E (.If c sa sb pos) (sIf cb g h) := ps_imp (ps_if hc ha hb) fun D σ H q => by
  obtain ⟨ρ, aσ, st, hE, hS, h⟩ := q
  refine tb_bind hE hS h fun ρ1 H1 b st1 _ s1 e1 h => ?_
  cases b with
  | true => exact ite_tt ⟨ρ1, aσ, st1, e1, s1, h⟩
  | false => exact ite_ff ⟨ρ1, aσ, st1, e1, s1, h⟩
theorem es_asg {tg : Expr} {t : DT} (ha : EV X T E a fa) (hg : EG X T E tg t) (hs : swapsWithSole [tg] a pos.line X.env = pure false := by rfl) (hw : swappedStores [tg] a X.env = pure none := by rfl)
    (h1 : (assignEach [tg] X.env).map (·.2) = [assign tg X.env] := by rfl) : ES X T E (.Assign [tg] a pos) (sAsg fa t) := ps_imp (ps_asg ha hg hs hw h1) fun D σ H q => by
  obtain ⟨ρ, aσ, st, hE, hS, h⟩ := q
  exact tv_bind hE hS h fun ρ1 H1 x v st1 x1 s1 e1 rx h => tg_bind e1 s1 rx h fun ρ2 H2 aσ2 σ2 st2 x2 s2 e2 h => h.ret s2 _ e2
/-- x = e -/
theorem es_set (i : Nat) {x : Str} {pos' : Pos} (hN : X.N.Nodup) (ha : EV X T E a fa) (hi : X.N[i]? = some x := by rfl) (hx : Loc X.env.scope x := by first | exact Or.inl rfl | exact Or.inr rfl) (hf : X.fn x = true ∨ X.env.scope.names.lookup x = some .local := by first | exact .inl rfl | exact .inr rfl)
    (hs : swapsWithSole [.Name x pos'] a pos.line X.env = pure false := by rfl) (hw : swappedStores [.Name x pos'] a X.env = pure none := by rfl) : ES X T E (.Assign [.Name x pos'] a pos) (sAsg fa (tName i)) :=
  es_asg ha (eg_name i hN hi hx hf) hs hw rfl

/-! ### loops -/
/-- from (ρ0, H0) on the walk J gives these items, as long as ok holds of the store -/
def Wk (G : DG) (ρ0 : List Addr) (H0 : Hp) (J : It) (l : List PV) (ok : Store → Bool) : Prop := ∀ T' ρ H st, Mv G.T ρ0 H0 T' ρ H → RlS ⟨G.K, G.mg, T'⟩ ρ H st → ok st = true →
  (∀ i, i < l.length → J.go i H) ∧ J.stop l.length H ∧ ∀ i x H' p, l[i]? = some p → J.yld i H x H' → Ext T' ρ H ρ H' ∧ RlS ⟨G.K, G.mg, T'⟩ ρ H' st ∧ Rl ⟨G.K, G.mg, T'⟩ ρ H' p x
def Ti (G : DG) (E : XK) (f : DI) : TI := fun σ H R => ∃ ρ aσ st, RlE G ρ H aσ σ ∧ RlS G ρ H st ∧ Pst G E ρ H (fun r st' ρ' H' => ∀ J, Wk G ρ' H' J r.1 r.2 → R J H') (f aσ st)
def EI (X : Cx) (T : TR) (E : XK) (tg iter : Expr) (f : DI) : Prop := PI X tg iter (Ti (gOf X T) E f)
theorem pi_imp {tg iter : Expr} {w w' : TI} (h : PI X tg iter w) (i : ∀ σ H R, w' σ H R → w σ H R) : PI X tg iter w' := ⟨fun pins s σ H R I q => h.run pins s σ H R I (i σ H R q)⟩
theorem ti_bind {β : Type} {f : DI} {k : Src → Store → Res β} {K : β → Store → List Addr → Hp → Prop} {R : It → Hp → Prop} (hE : RlE G ρ H aσ σ) (hS : RlS G ρ H st) (h : Pst G E ρ H K ((f aσ st).bind k))
    (q : ∀ ρ1 H1 r st1 J, Ext G.T ρ H ρ1 H1 → RlS G ρ1 H1 st1 → RlE G ρ1 H1 aσ σ → Wk G ρ1 H1 J r.1 r.2 → Pst G E ρ1 H1 K (k r st1) → R J H1) : Ti G E f σ H R :=
  ⟨ρ, aσ, st, hE, hS, h.bind.imp fun r st1 ρ1 H1 _ _ z J w => q ρ1 H1 r st1 J z.1 z.2.1 (hE.ext z.1) w z.2.2⟩
theorem drop_some {α : Type} {l : List α} {i : Nat} (h : i < l.length) : l.drop i = l[i] :: l.drop (i + 1) := by rw [List.drop_eq_getElem_cons h]
theorem es_for {tg iter : Expr} {body : List Stmt} {src : DI} {t : DT} {b : DS} (w : List Nat) (hp : PassesOwn (model X.prog X.w) X.A X.env X.xe) (hc : X.calm = true) (hi : EI X T E tg iter src) (hg : EG X T E tg t) (hb : ESs X T E body b)
    (hs : ∀ x, foldedSetIterable iter X.env x = pure x := by intro _; rfl) : ES X T E (.For tg iter body [] pos) (sFor src t b w) := ps_imp (ps_for hp hc hi hg hb hs) fun D σ H q => by
  obtain ⟨ρ, aσ, st, hE, hS, h⟩ := q
  refine ti_bind hE hS h fun ρ0 H0 r st0 J x0 s0 e0 wk h => ?_
  obtain ⟨l, ok⟩ := r
  refine ⟨fun i m σ H => m = l.length - i ∧ i ≤ l.length ∧ ∃ ρ aσ st, Ext T ρ0 H0 ρ H ∧ RlE (gOf X T) ρ H aσ σ ∧ RlS (gOf X T) ρ H st ∧ Pst (gOf X T) E ρ H (KS (gOf X T) D) (forL t b w ok (l.drop i) aσ st), ⟨l.length, by simp, Nat.zero_le _, ρ0, aσ, st0, Ext.refl, e0, s0, h⟩, ?_⟩
  rintro i m σ H ⟨rfl, hil, ρ, aσ, st, x, e, s, h⟩
  by_cases hlt : i < l.length
  · rw [drop_some hlt] at h
    unfold forL at h
    split at h
    · rename_i hok
      obtain ⟨h1, h2, h3⟩ := wk T ρ H st x.mv s hok
      refine .inr ⟨h1 i hlt, fun σ' H' => ∃ ρ' aσ' st', Ext T ρ0 H0 ρ' H' ∧ RlE (gOf X T) ρ' H' aσ' σ' ∧ RlS (gOf X T) ρ' H' st' ∧ Pst (gOf X T) E ρ' H' (KS (gOf X T) D) (forL t b w ok (l.drop (i + 1)) aσ' st'), fun σ' H' q => ⟨l.length - (i + 1), by omega, rfl, hlt, q⟩, fun v H' y => ?_⟩
      obtain ⟨x1, s1, r1⟩ := h3 i v H' l[i] (List.getElem?_eq_getElem hlt) y
      refine tg_bind (e.ext x1) s1 r1 (h.base x1) fun ρ2 H2 aσ2 σ2 st2 x2 s2 e2 h => ?_
      refine ⟨ρ2, aσ2, st2, e2, s2, h.bind.imp fun r' st3 ρ3 H3 _ _ z σ3 e3 => ?_⟩
      obtain ⟨x3, s3, z⟩ := z
      obtain ⟨fl, aσ3⟩ := r'
      cases fl with
      | nx => exact ⟨ρ3, _, st3, ((x.trans x1).trans x2).trans x3, e3.wipe w, s3, z⟩
      | ct => exact ⟨ρ3, _, st3, ((x.trans x1).trans x2).trans x3, e3.wipe w, s3, z⟩
      | bk => exact z.ret s3 σ3 (e3.wipe w)
      | rt v => exact z.ret s3 σ3 e3
    · exact h.elim
  · have ei : i = l.length := by omega
    subst ei
    rw [List.drop_length] at h
    unfold forL at h
    split at h
    · rename_i hok
      obtain ⟨h1, h2, h3⟩ := wk T ρ H st x.mv s hok
      exact .inl ⟨h2, h.ret s σ (e.wipe w)⟩
    · exact h.elim
theorem es_while {body : List Stmt} {b : DS} (w : List Nat) (hp : PassesOwn (model X.prog X.w) X.A X.env X.xe) (hc : EB X T E c cb) (hb : ESs X T E body b) : ES X T E (.While c body [] pos) (sWhile cb b w) := ps_imp (ps_while hp hc hb) fun D σ H q => by
  obtain ⟨ρ, aσ, st, hE, hS, h⟩ := q
  unfold sWhile at h
  split at h
  · rename_i hn
    refine ⟨fun m σ H => ∃ ρ aσ st, RlE (gOf X T) ρ H aσ σ ∧ RlS (gOf X T) ρ H st ∧ Pst (gOf X T) E ρ H (KS (gOf X T) D) (whileN cb b w m aσ st), ⟨_, ρ, aσ, st, hE, hS, h⟩, ?_⟩
    rintro m σ H ⟨ρ, aσ, st, e, s, h⟩
    cases m with
    | zero => exact h.elim
    | succ m =>
      unfold whileN at h
      refine tb_bind e s h fun ρ1 H1 k st1 x1 s1 e1 h => ?_
      cases k with
      | true =>
        refine ite_tt ⟨fun σ' H' => ∃ ρ aσ st, RlE (gOf X T) ρ H' aσ σ' ∧ RlS (gOf X T) ρ H' st ∧ Pst (gOf X T) E ρ H' (KS (gOf X T) D) (whileN cb b w m aσ st), fun σ' H' q => ⟨m, Nat.lt_succ_self m, q⟩, ρ1, aσ, st1, e1, s1, ?_⟩
        have h : Pst (gOf X T) E ρ1 H1 (KS (gOf X T) D) ((b aσ st1).bind _) := h
        refine h.bind.imp fun r' st3 ρ3 H3 _ _ z σ3 e3 => ?_
        obtain ⟨x3, s3, z⟩ := z
        obtain ⟨fl, aσ3⟩ := r'
        cases fl with
        | nx => exact ⟨ρ3, _, st3, e3.wipe w, s3, z⟩
        | ct => exact ⟨ρ3, _, st3, e3.wipe w, s3, z⟩
        | bk => exact z.ret s3 σ3 (e3.wipe w)
        | rt v => exact z.ret s3 σ3 e3
      | false => exact ite_ff (h.ret s1 σ e1)
  · exact h.elim
end
end DN
set_option Elab.async false
set_option linter.all false
set_option maxRecDepth 100000
set_option maxHeartbeats 2000000
/-! DnIter: what is walked. -/
/-! ### enumerate(a tuple) -/
namespace PySem
open Sem (wp)
theorem dn_enumT (l : Addr) (items : Array Value) (o : Obj) (n : Nat) (hc : o.cls = .type "tuple") (hd : o.data = .seq items n) :
    Meets (Builtin.«enumerate.__new__» ⟨[.type "enumerate", .ref l], []⟩) (fun _ R s => s.heap.get? l = some o ∧
      R (.ok (.ret (.ref (s.heap.push { cls := .type "tuple_iterator", data := .fields #[.ref l, .int 0 0] }).objs.size)))
        { s with heap := (s.heap.push { cls := .type "tuple_iterator", data := .fields #[.ref l, .int 0 0] }).push { cls := .type "enumerate", data := .fields #[.none, .bool false, .ref s.heap.objs.size, rawInt 0, .none, .none] } }) :=
  .of_wp fun prog w A R s hh => by
    obtain ⟨hp, g, dr, tk, os⟩ := s
    obtain ⟨ht, hq⟩ := hh
    have hsub := sub_enumerate
    have hT : Heap.IsTuple (Shared.heap ⟨hp, g, dr, tk, os⟩) l items := ⟨o, ht, hc, n, hd⟩
    wp_walk
    refine wpAny_stack_any fun st => wpAny_pure ?_
    split
    · rename_i c _ _ _ _ _
      cases (c == Value.type "enumerate") <;> (wp_walk using wpAny_pyIter_tuple hT; exact ⟨_, rfl, hq⟩)
    · wp_walk using wpAny_pyIter_tuple hT
      exact ⟨_, rfl, hq⟩
theorem dn_call_enumT {prog : Program} {w : World} {A : Around} {E : Value → Shared → Prop} {s : Shared} {l : Addr} {items : Array Value} {Q : Value → Shared → Prop} (ht : s.heap.IsTuple l items)
    (q : ∀ h', IsEnum h' (s.heap.objs.size + 1) s.heap.objs.size 0 .none → h'.IsTupleIter s.heap.objs.size l 0 → (∀ b o, s.heap.get? b = some o → h'.get? b = some o) → Q (.ref (s.heap.objs.size + 1)) { s with heap := h' }) :
    wpAny (model prog w) A (call (.type "enumerate") [.ref l]) Q E s := by
  obtain ⟨o, hl, hc, n, hd⟩ := ht
  refine callType_new F.called_enumerate (by decide) (F.typeCall_enumerate_1 _) (F.newCall_enumerate_1 _) (fun obj => F.args_object_init_2 obj _) F.entry_enumerate_new (dn_enumT l items o n hc hd) ⟨hl, ?_⟩
  have hz : (s.heap.push { cls := .type "tuple_iterator", data := .fields #[.ref l, .int 0 0] }).objs.size = s.heap.objs.size + 1 := Heap.size_push ..
  show _ ∧ _
  rw [hz]
  have he : IsEnum ((s.heap.push { cls := .type "tuple_iterator", data := .fields #[.ref l, .int 0 0] }).push { cls := .type "enumerate", data := .fields #[.none, .bool false, .ref s.heap.objs.size, rawInt 0, .none, .none] }) (s.heap.objs.size + 1) s.heap.objs.size 0 .none := by
    have z := Heap.get?_push_size (s.heap.push { cls := .type "tuple_iterator", data := .fields #[.ref l, .int 0 0] }) (o := { cls := .type "enumerate", data := .fields #[.none, .bool false, .ref s.heap.objs.size, rawInt 0, .none, .none] }) rfl
    rwa [hz] at z
  exact ⟨⟨_, he, rfl⟩, q _ he ⟨_, Heap.get?_push_of_some _ (Heap.get?_push_size _ rfl), rfl, rfl⟩ fun b ob x => Heap.get?_push_of_some _ (Heap.get?_push_of_some _ x)⟩
end PySem
namespace DN
open PySem PySem.Spec PyProof.Rows L2
/-- the tuple at a, each item in a new pair behind its number -/
def IteT (K : PySem.W.Frag) (a : Addr) : It :=
  ⟨fun i H => ∃ (xs : List V) (x : V), SqT K H a xs ∧ xs[i]? = some x, fun i H v H' => ∃ T x, v = .ref T ∧ H T = none ∧ H' = upd H T (.tup [.int (i : Nat), x]) ∧ ∀ xs, SqT K H a xs → xs[i]? = some x, fun i H => ∃ xs : List V, SqT K H a xs ∧ xs.length ≤ i⟩
theorem turn_enumT {P : Program} {w : World} {K : PySem.W.Frag} {elts : List Expr} {kk : Nat} {tpos : Pos} (a e it : Addr) :
    Turn P w K (.Tuple elts kk tpos) (IteT K a) [e, it] e (fun i h => (∃ old, IsEnum h e it ((i : Nat) : Int) old) ∧ h.IsTupleIter it a i ∧ e ≠ it) where
  mem := by simp
  obj := fun i h st b hb => by
    obtain ⟨⟨old, he⟩, ⟨o, ho, hc, hd⟩, _⟩ := st
    rcases (show b = e ∨ b = it by simpa using hb) with rfl | rfl
    · exact ⟨_, he, fun v q => nomatch q⟩
    · exact ⟨o, ho, fun v q => by rw [hd] at q; cases q⟩
  keep := fun i h h' st k => ⟨let ⟨old, he⟩ := st.1; ⟨old, k e (by simp) _ he⟩, st.2.1.at fun o q => k it (by simp) o q, st.2.2⟩
  item := by
    intro X hP hw hK hc i pins s σ H E I hf st hg
    subst hP hw hK
    obtain ⟨⟨old, he⟩, hit, hne⟩ := st
    obtain ⟨xs, x, hq, hx⟩ := hg
    obtain ⟨its, rv, p, hz⟩ := I.tuple hq
    have pt : s.heap.IsTuple a its.toArray := p
    obtain ⟨u, hu, ru⟩ := rv.get hx
    have hel : e < s.heap.objs.size := Heap.lt_size he
    have hil : it < s.heap.objs.size := by obtain ⟨_, q, _⟩ := hit; exact Heap.lt_size q
    have hae : a ≠ e := fun z => by
      obtain ⟨ot, h1, h2, _⟩ := pt
      rw [z, show s.heap.get? e = _ from he] at h1
      cases h1
      simp at h2
    have hai : a ≠ it := fun z => by
      obtain ⟨ot, h1, h2, _⟩ := pt
      obtain ⟨oi, h3, h4, _⟩ := hit
      rw [z, h3] at h1
      cases h1
      rw [h4] at h2
      simp at h2
    have D := Draws.tuple (prog := X.prog) (w := X.w) (A := X.A.in1) (I.ok.hd hc) it a hai its.toArray
    have hin : i < its.toArray.size := by
      have := (List.getElem?_eq_some_iff.mp hu).1
      simpa using this
    refine wpAny_pyNext_enum_itemD D he ⟨hit, pt⟩ hin hne (by simp [Ne.symm hae, hne]) fun u2 h' tk hu2 ho hit' hT hsz hk => ?_
    have eu : u2 = u := by
      have h1 : its[i]? = some u2 := by simpa using hu2
      rw [hu] at h1
      exact (Option.some.inj h1).symm
    subst eu
    refine ⟨_, rfl, wpAny_letOwnedTupleGo_enum (s := { s with heap := h', toks := tk + 1 }) ho fun h'' he' sb => ?_⟩
    have hT2 : h''.get? s.heap.objs.size = some { cls := .type "tuple", data := .seq #[.int i tk, u2] } := (sb.2 _ (Nat.ne_of_gt hel)).trans hT
    have new : ObjOk X.prog X.w (upd H s.heap.objs.size (.tup [.int (i : Nat), x])) h'' s.heap.objs.size (.tup [.int (i : Nat), x]) :=
      ⟨by show 2 ≤ sizeLine; decide, [.int i tk, u2], .cons ⟨_, rfl⟩ (.cons ru .nil), ⟨_, hT2, rfl, _, rfl⟩⟩
    have I1 : Inv X pins σ (upd H s.heap.objs.size (.tup [.int (i : Nat), x])) { s with heap := h'', toks := tk + 1 } :=
      I.turnedNew (ch := [e, it]) (fun b ob hb q => (sb.2 b (fun z => hb (by simp [z]))).trans (hk b ob (fun z => hb (by simp [z])) (fun z => hb (by simp [z])) q)) hf (Nat.le_refl _) new
    have st2 : h''.IsTupleIter it a (i + 1) := hit'.1.at fun o q => (sb.2 it (Ne.symm hne)).trans q
    refine ⟨.ref s.heap.objs.size, _, I1, rfl, ⟨_, x, rfl, I.hok.fresh (Nat.le_refl _), rfl, fun ys hy => by rw [I.tuple_inj hy hq]; exact hx⟩, ⟨⟨u2, ?_⟩, st2, hne⟩, fun b hb => ?_⟩
    · rw [show ((i + 1 : Nat) : Int) = (i : Int) + 1 by omega]
      exact he'
    · have hb' : b < s.heap.objs.size := by
        rcases (show b = e ∨ b = it by simpa using hb) with rfl | rfl
        · exact hel
        · exact hil
      rw [upd_ne (Nat.ne_of_lt hb')]
      exact (hf b hb).1
  done := by
    intro X hP hw hK hc i pins s σ H E I hf st hg
    subst hP hw hK
    obtain ⟨⟨old, he⟩, hit, hne⟩ := st
    obtain ⟨xs, hq, hx⟩ := hg
    obtain ⟨its, rv, p, hz⟩ := I.tuple hq
    have pt : s.heap.IsTuple a its.toArray := p
    obtain ⟨f0, f1, f2, f3, f4, f5⟩ := hf it (by simp)
    have hl := rv.length
    have hT : s.TypeIs (.ref e) "enumerate" := ⟨_, he, rfl⟩
    unfold pyNext
    refine wpAny_bind (wpAny_attempt (wpAny_callSpecial?_slot (name := Str.ofString "__next__") hT F.slot_enumerate_next
      (wpAny_call_entry F.slot_enumerate_next hT F.entry_enumerate_next ?_ (F.args_enumerate_next_1 _))))
    refine wpAny_bind (m := field (.ref e) 2) (wpAny_field he rfl (x := .ref it) rfl ?_)
    refine wpAny_bind (wpAny_nextOf_tuple_end (I.ok.hd hc) hit pt (by simp; omega) fun h' x eb hx' => ?_)
    obtain ⟨o, ho, hcl⟩ := hx'
    refine wpAny_bind (wpAny_isInstance (T := "StopIteration") (b := true) ⟨o, ho, hcl⟩ isSubtype_stop ?_)
    exact wpAny_pure ⟨rfl, I.turned (t' := s.toks) (fun b o hb q => eb b o hb q) f0 f1 f3 f4 f5⟩
  self := fun A i s Q E st h => let ⟨⟨_, he⟩, _⟩ := st; wpAny_pyIter_enum he h
/-! ### what is walked: the rules -/
section
variable {X : Cx} {T : TR} {E : XK} {G : DG} {ρ : List Addr} {H : Hp} {σ : St} {aσ : AE} {st : Store}
variable {tg a b e : Expr} {fa fb f : DE} {pos p : Pos}
theorem pi_or {iter : Expr} {w w' : TI} (h : PI X tg iter w) (h' : PI X tg iter w') : PI X tg iter (fun σ H R => w σ H R ∨ w' σ H R) :=
  ⟨fun pins s σ H R I q => q.elim (h.run pins s σ H R I) (h'.run pins s σ H R I)⟩
theorem wk_tup {ρ0 : List Addr} {H0 : Hp} {a : Addr} {l : List PV} {xs : List V} {f : Bool} (q : TV G.K H0 (isW l) f a xs) (ra : RlAll G ρ0 H0 l xs) : Wk G ρ0 H0 (Itt G.K a) l fun _ => true := fun T' ρ H st x s _ => by
  have q' : SqT G.K H a xs := TV.sq (q.elim (fun ⟨o, p, z⟩ => .inl ⟨o, p, x.tups _ _ (mkT_tu _ _ _) z⟩) .inr)
  have ra' := RlAll.mv (K := G.K) (mg := G.mg) x ra
  refine ⟨fun i hi => ?_, ⟨xs, q', Nat.le_of_eq ra.length.symm⟩, fun i v H' p hp y => ?_⟩
  · obtain ⟨v, hv, _⟩ := ra'.get (List.getElem?_eq_getElem hi)
    exact ⟨xs, v, q', hv⟩
  · obtain ⟨rfl, y⟩ := y
    obtain ⟨w, hw, r⟩ := ra'.get hp
    have e := y xs q'
    rw [hw] at e
    cases e
    exact ⟨Ext.refl, s, r⟩
theorem wk_lst {ρ0 : List Addr} {H0 : Hp} {a : Addr} {l : List PV} {xs : List V} (q : LV G.T ρ0 H0 a xs) (ra : RlAll G ρ0 H0 l xs) : Wk G ρ0 H0 (Itl G.K a) l fun _ => true := fun T' ρ H st x s _ => by
  have q' : SqL G.K H a xs := .inl (x.keep _ _ q.1 q.2 (fun _ z => by cases z)).1
  have ra' := RlAll.mv (K := G.K) (mg := G.mg) x ra
  refine ⟨fun i hi => ?_, ⟨xs, q', Nat.le_of_eq ra.length.symm⟩, fun i v H' p hp y => ?_⟩
  · obtain ⟨v, hv, _⟩ := ra'.get (List.getElem?_eq_getElem hi)
    exact ⟨xs, v, q', hv⟩
  · obtain ⟨rfl, y⟩ := y
    obtain ⟨w, hw, r⟩ := ra'.get hp
    have e := y xs q'
    rw [hw] at e
    cases e
    exact ⟨Ext.refl, s, r⟩
open Classical in
theorem wk_ref {ρ0 : List Addr} {H0 : Hp} {n : Nat} {a : Addr} {l : List PV} (h : ρ0[n]? = some a) : Wk G ρ0 H0 (Itl G.K a) l fun st => decide (st[n]? = some (.lst l)) := fun T' ρ H st x s ok => by
  have es : st[n]? = some (.lst l) := of_decide_eq_true ok
  have ea : ρ[n]? = some a := by
    cases Rl.mv (K := G.K) (mg := G.mg) x (Rl.ref h) with
    | ref q => exact q
  have ro := s.ref ea es
  obtain ⟨xs, hh, ra⟩ : ∃ xs, H a = some (.lst xs) ∧ RlAll ⟨G.K, G.mg, T'⟩ ρ H l xs := by
    cases ro with
    | lst hh ra => exact ⟨_, hh, ra⟩
  have q' : SqL G.K H a xs := .inl (.inl hh)
  refine ⟨fun i hi => ?_, ⟨xs, q', Nat.le_of_eq ra.length.symm⟩, fun i v H' p hp y => ?_⟩
  · obtain ⟨v, hv, _⟩ := ra.get (List.getElem?_eq_getElem hi)
    exact ⟨xs, v, q', hv⟩
  · obtain ⟨rfl, y⟩ := y
    obtain ⟨w, hw, r⟩ := ra.get hp
    have e := y xs q'
    rw [hw] at e
    cases e
    exact ⟨Ext.refl, s, r⟩
theorem wk_str {ρ0 : List Addr} {H0 : Hp} {z : Str} : Wk G ρ0 H0 (Its z) (z.cps.toList.map fun c => PV.str ⟨#[c]⟩) fun _ => true := fun T' ρ H st x s _ => by
  refine ⟨fun i hi => by show i < z.cps.size; simpa using hi, by show z.cps.size ≤ _; simp, fun i v H' p hp y => ?_⟩
  obtain ⟨rfl, c, hc, rfl⟩ := y
  rw [List.getElem?_map] at hp
  have e : z.cps.toList[i]? = some c := by simpa using hc
  rw [e] at hp
  cases hp
  exact ⟨Ext.refl, s, .str _⟩
theorem wk_rg {ρ0 : List Addr} {H0 : Hp} {lo hi : Int} : Wk G ρ0 H0 (Itr lo (hi - lo).toNat) (rgP lo hi) fun _ => true := fun T' ρ H st x s _ => by
  have hl : (rgP lo hi).length = (hi - lo).toNat := by simp [rgP]
  refine ⟨fun i hi => by rw [hl] at hi; exact hi, by rw [hl]; exact Nat.le_refl _, fun i v H' p hp y => ?_⟩
  obtain ⟨rfl, rfl⟩ := y
  unfold rgP at hp
  rw [List.getElem?_map] at hp
  obtain ⟨j, hj, rfl⟩ := Option.map_eq_some_iff.mp hp
  have ej : j = i := by
    rw [List.getElem?_range (by have := (List.getElem?_eq_some_iff.mp hj).1; simpa using this)] at hj
    exact (Option.some.inj hj).symm
  subst ej
  exact ⟨Ext.refl, s, .int _⟩
theorem ei_seq (ha : EV X T E a fa) : EI X T E tg a (iSeq fa) := pi_imp (pi_or (pi_or (pi_list ha) (pi_tup ha)) (pi_str ha)) fun σ H R q => by
  obtain ⟨ρ, aσ, st, hE, hS, h⟩ := q
  have key : ∀ W : VK, (∀ ρ1 H1 x v st1, Ext T ρ H ρ1 H1 → RlS (gOf X T) ρ1 H1 st1 → RlE (gOf X T) ρ1 H1 aσ σ → Rl (gOf X T) ρ1 H1 x v → fa aσ st = .ok x st1 → Pst (gOf X T) E ρ1 H1 (fun r _ ρ' H' => ∀ J, Wk (gOf X T) ρ' H' J r.1 r.2 → R J H') (srcOf x st1) → W v H1) → Tv (gOf X T) E fa σ H W := fun W k => by
    refine ⟨ρ, aσ, st, hE, hS, ?_⟩
    have h := h.bind
    cases q : fa aσ st with
    | ok x st1 =>
      rw [q] at h
      exact fun ρ1 H1 x1 s1 v r => k ρ1 H1 x v st1 x1 s1 (hE.ext x1) r q (h ρ1 H1 x1 s1).2.2
    | exc c w st1 => rw [q] at h; exact h
    | fail => rw [q] at h; exact h
  cases q : fa aσ st with
  | ok x st1 =>
    have sub : ∀ {x' : PV} {st2 : Store}, fa aσ st = .ok x' st2 → x' = x := fun e => by rw [q] at e; cases e; rfl
    cases x with
    | tup l =>
      refine .inl (.inr (key _ fun ρ1 H1 x v st1 x1 s1 e1 r qq h => ?_))
      cases sub qq
      cases r with
      | tup q ra => exact ⟨_, rfl, ⟨_, q.sq⟩, h.ret s1 _ (wk_tup q ra)⟩
    | lst l =>
      refine .inl (.inl (key _ fun ρ1 H1 x v st1 x1 s1 e1 r qq h => ?_))
      cases sub qq
      cases r with
      | lst q ra => exact ⟨_, rfl, ⟨_, q.sq⟩, h.ret s1 _ (wk_lst q ra)⟩
    | ref n =>
      refine .inl (.inl (key _ fun ρ1 H1 x v st1 x1 s1 e1 r qq h => ?_))
      cases sub qq
      unfold srcOf at h
      cases r with
      | ref q =>
        dsimp only at h
        split at h
        · rename_i l e
          cases s1.ref q e with
          | lst hh ra => exact ⟨_, rfl, ⟨_, .inl (.inl hh)⟩, h.ret s1 _ (wk_ref q)⟩
        · exact h.elim
    | str z =>
      refine .inr (key _ fun ρ1 H1 x v st1 x1 s1 e1 r qq h => ?_)
      cases sub qq
      cases r
      exact ⟨_, rfl, h.ret s1 _ wk_str⟩
    | _ =>
      refine .inl (.inl (key _ fun ρ1 H1 x v st1 x1 s1 e1 r qq h => ?_))
      cases sub qq
      exact h.elim
  | exc c w st1 =>
    refine .inl (.inl (key _ fun ρ1 H1 x v st1 x1 s1 e1 r qq h => ?_))
    rw [q] at qq
    cases qq
  | fail =>
    unfold iSeq at h
    rw [q] at h
    exact h.elim
theorem rgOk_b {i : Int} (h : rgOk i = true) : -(2 ^ 62) ≤ i ∧ i < 2 ^ 62 := by
  have h := of_decide_eq_true h
  omega
theorem ei_rg1 (hg : Gl X "range") (hm : X.mg "range" = none) (ha : EV X T E a fa) (hs : starEach [a] X.env = [(false, eval a X.env)] := by rfl) : EI X T E tg (.Call (.Name "range" p) [a] [] pos) (iRg1 fa) :=
  pi_imp (pi_range1 hg hm (pa_cons ha pa_nil hs) hs) fun σ H R q => by
  obtain ⟨ρ, aσ, st, hE, hS, h⟩ := q
  refine tv_bind hE hS h fun ρ1 H1 x v st1 _ s1 _ rx h => ?_
  cases x with
  | int n =>
    cases rx
    dsimp only at h
    split at h
    · rename_i ok
      refine ⟨n, rfl, (rgOk_b ok).1, (rgOk_b ok).2, ?_⟩
      have z := h.ret s1 _ wk_rg
      rwa [Int.sub_zero] at z
    · exact h.elim
  | _ => exact h.elim
theorem ei_rg2 (hg : Gl X "range") (hm : X.mg "range" = none) (ha : EV X T E a fa) (hb : EV X T E b fb) (hs : starEach [a, b] X.env = [(false, eval a X.env), (false, eval b X.env)] := by rfl) (hs2 : starEach [b] X.env = [(false, eval b X.env)] := by rfl) (hs3 : starEach [a, b] X.env = (false, eval a X.env) :: starEach [b] X.env := by rfl) :
    EI X T E tg (.Call (.Name "range" p) [a, b] [] pos) (iRg2 fa fb) :=
  pi_imp (pi_range2 hg hm (pa_cons ha (pa_cons hb pa_nil hs2) hs3) hs hs2) fun σ H R q => by
  obtain ⟨ρ, aσ, st, hE, hS, h⟩ := q
  refine tv_bind hE hS h fun ρ1 H1 x v st1 _ s1 e1 rx h => tv_bind e1 s1 h fun ρ2 H2 y u st2 x2 s2 e2 ry h => ?_
  have rx := rx.ext x2
  cases x with
  | int i =>
    cases y with
    | int j =>
      cases rx
      cases ry
      dsimp only at h
      split at h
      · rename_i ok
        obtain ⟨o1, o2⟩ := Bool.and_eq_true_iff.mp ok
        exact ⟨i, j, rfl, ⟨(rgOk_b o1).1, (rgOk_b o1).2, (rgOk_b o2).1, (rgOk_b o2).2⟩, h.ret s2 _ wk_rg⟩
      · exact h.elim
    | _ => exact h.elim
  | _ => exact h.elim
end
end DN
set_option Elab.async false
set_option linter.all false
set_option maxRecDepth 100000
set_option maxHeartbeats 2000000
/-! DnIter2: enumerate, comprehensions. -/
namespace DN
open PySem PySem.Spec PyProof.Rows L2

open Classical in
/-- enumerate -/
noncomputable def srcEn (p : PV) : M Src := fun st => match p with
  | .tup l => .ok (numbered 0 l, fun _ => true) st
  | .lst l => .ok (numbered 0 l, fun _ => true) st
  | .ref n => (match st[n]? with
    | some (.lst l) => .ok (numbered 0 l, fun st => decide (st[n]? = some (.lst l))) st
    | _ => .fail)
  | _ => .fail
noncomputable def iEn (f : DE) : DI := fun σ st => (f σ st).bind fun p st => srcEn p st
theorem numbered_len : ∀ (k : Nat) (l : List PV), (numbered k l).length = l.length
  | _, [] => rfl
  | k, _ :: r => by simp [numbered, numbered_len (k + 1) r]
theorem numbered_get : ∀ (k i : Nat) (l : List PV), (numbered k l)[i]? = l[i]?.map fun p => PV.tup [.int ((k + i : Nat) : Int), p]
  | _, _, [] => by simp [numbered]
  | k, 0, p :: r => by simp [numbered]
  | k, i + 1, p :: r => by
    simp only [numbered, List.getElem?_cons_succ]
    rw [numbered_get (k + 1) i r]
    rw [show k + 1 + i = k + (i + 1) by omega]

section
variable {X : Cx} {T : TR} {E : XK} {G : DG} {ρ : List Addr} {H : Hp} {σ : St} {aσ : AE} {st : Store}
variable {tg a b e : Expr} {fa fb f : DE} {pos p : Pos}
theorem pair_new {T0 : Addr} {i : Nat} {q : PV} {x : V} (s : RlS G ρ H st) (hT : H T0 = none) (r : Rl G ρ H q x) : Ext G.T ρ H ρ (upd H T0 (.tup [.int (i : Nat), x])) ∧ RlS G ρ (upd H T0 (.tup [.int (i : Nat), x])) st ∧ Rl G ρ (upd H T0 (.tup [.int (i : Nat), x])) (.tup [.int (i : Nat), q]) (.ref T0) :=
  ⟨ext_new hT, s.new hT, .tup (.inl ⟨{ cls := .type "tuple", data := .seq #[] 0 }, plT_new _ _, upd_same⟩) (.cons (.int _) (.cons (r.ext (ext_new hT)) .nil))⟩
theorem wk_enT {ρ0 : List Addr} {H0 : Hp} {a : Addr} {l : List PV} {xs : List V} {f : Bool} (q : TV G.K H0 (isW l) f a xs) (ra : RlAll G ρ0 H0 l xs) : Wk G ρ0 H0 (IteT G.K a) (numbered 0 l) fun _ => true := fun T' ρ H st x s _ => by
  have q' : SqT G.K H a xs := TV.sq (q.elim (fun ⟨o, p, z⟩ => .inl ⟨o, p, x.tups _ _ (mkT_tu _ _ _) z⟩) .inr)
  have ra' := RlAll.mv (K := G.K) (mg := G.mg) x ra
  rw [numbered_len]
  refine ⟨fun i hi => ?_, ⟨xs, q', Nat.le_of_eq ra.length.symm⟩, fun i v H' p hp y => ?_⟩
  · obtain ⟨v, hv, _⟩ := ra'.get (List.getElem?_eq_getElem hi)
    exact ⟨xs, v, q', hv⟩
  · obtain ⟨T0, z, rfl, hT, rfl, y⟩ := y
    rw [numbered_get] at hp
    obtain ⟨p', hp', rfl⟩ := Option.map_eq_some_iff.mp hp
    obtain ⟨w, hw, r⟩ := ra'.get hp'
    have e := y xs q'
    rw [hw] at e
    cases e
    rw [Nat.zero_add]
    exact pair_new s hT r
theorem wk_enL {ρ0 : List Addr} {H0 : Hp} {a : Addr} {l : List PV} {xs : List V} (q : LV G.T ρ0 H0 a xs) (ra : RlAll G ρ0 H0 l xs) : Wk G ρ0 H0 (Ite G.K a) (numbered 0 l) fun _ => true := fun T' ρ H st x s _ => by
  have q' : SqL G.K H a xs := .inl (x.keep _ _ q.1 q.2 (fun _ z => by cases z)).1
  have ra' := RlAll.mv (K := G.K) (mg := G.mg) x ra
  rw [numbered_len]
  refine ⟨fun i hi => ?_, ⟨xs, q', Nat.le_of_eq ra.length.symm⟩, fun i v H' p hp y => ?_⟩
  · obtain ⟨v, hv, _⟩ := ra'.get (List.getElem?_eq_getElem hi)
    exact ⟨xs, v, q', hv⟩
  · obtain ⟨T0, z, rfl, hT, rfl, y⟩ := y
    rw [numbered_get] at hp
    obtain ⟨p', hp', rfl⟩ := Option.map_eq_some_iff.mp hp
    obtain ⟨w, hw, r⟩ := ra'.get hp'
    have e := y xs q'
    rw [hw] at e
    cases e
    rw [Nat.zero_add]
    exact pair_new s hT r
open Classical in
theorem wk_enR {ρ0 : List Addr} {H0 : Hp} {n : Nat} {a : Addr} {l : List PV} (h : ρ0[n]? = some a) : Wk G ρ0 H0 (Ite G.K a) (numbered 0 l) fun st => decide (st[n]? = some (.lst l)) := fun T' ρ H st x s ok => by
  have es : st[n]? = some (.lst l) := of_decide_eq_true ok
  have ea : ρ[n]? = some a := by
    cases Rl.mv (K := G.K) (mg := G.mg) x (Rl.ref h) with
    | ref q => exact q
  have ro := s.ref ea es
  obtain ⟨xs, hh, ra'⟩ : ∃ xs, H a = some (.lst xs) ∧ RlAll ⟨G.K, G.mg, T'⟩ ρ H l xs := by
    cases ro with
    | lst hh ra => exact ⟨_, hh, ra⟩
  have q' : SqL G.K H a xs := .inl (.inl hh)
  rw [numbered_len]
  refine ⟨fun i hi => ?_, ⟨xs, q', Nat.le_of_eq ra'.length.symm⟩, fun i v H' p hp y => ?_⟩
  · obtain ⟨v, hv, _⟩ := ra'.get (List.getElem?_eq_getElem hi)
    exact ⟨xs, v, q', hv⟩
  · obtain ⟨T0, z, rfl, hT, rfl, y⟩ := y
    rw [numbered_get] at hp
    obtain ⟨p', hp', rfl⟩ := Option.map_eq_some_iff.mp hp
    obtain ⟨w, hw, r⟩ := ra'.get hp'
    have e := y xs q'
    rw [hw] at e
    cases e
    rw [Nat.zero_add]
    exact pair_new s hT r
/-- enumerate(t), t a tuple -/
def iEnumT (K : PySem.W.Frag) (ta : TA) : TI := fun σ H R => ta σ H fun vs H1 => ∃ a xs, vs = [.ref a] ∧ SqT K H1 a xs ∧ R (IteT K a) H1
theorem pi_enumT {e : Expr} {ta : TA} {p pos tpos : Pos} {elts : List Expr} {kk : Nat} (hg : Gl X "enumerate") (hm : X.mg "enumerate" = none) (ha : PA X [e] ta) (hs : starEach [e] X.env = [(false, eval e X.env)] := by rfl) :
    PI X (.Tuple elts kk tpos) (.Call (.Name "enumerate" p) [e] [] pos) (iEnumT X.K ta) := by
  refine ⟨fun pins s σ H R I h => ?_⟩
  refine Call_ (ld_blt I hg hm boot_enumerate (PyProof.Rows.callWith_type1 (thn (ha.run pos pins s σ H _ I h) fun us s1 ⟨vs, H1, I1, r1, q1⟩ => ?_) hs rfl))
  obtain ⟨a, xs, rfl, hq, q⟩ := q1
  obtain ⟨u, rfl, r⟩ := vals1 r1
  cases r
  obtain ⟨its, rv, pt, hz⟩ := I1.tuple hq
  refine dn_call_enumT (show s1.heap.IsTuple a its.toArray from pt) fun h' he hit hk => wpAny_pyIter_enum he ?_
  refine ⟨s1.heap.objs.size + 1, [s1.heap.objs.size + 1, s1.heap.objs.size], _, _, H1, rfl, I1.kept (t' := s1.toks) hk, turn_enumT a (s1.heap.objs.size + 1) s1.heap.objs.size, ⟨⟨.none, he⟩, hit, Nat.succ_ne_self _⟩, fun b hb => ?_, q⟩
  have hle : s1.heap.objs.size ≤ b := by
    rcases (show b = s1.heap.objs.size + 1 ∨ b = s1.heap.objs.size by simpa using hb) with rfl | rfl
    · exact Nat.le_add_right _ _
    · exact Nat.le_refl _
  exact I1.fpOk hle (I1.hok.fresh hle)
theorem ei_enum {elts : List Expr} {kk : Nat} {tpos : Pos} (hg : Gl X "enumerate") (hm : X.mg "enumerate" = none) (ha : EV X T E a fa) (hs : starEach [a] X.env = [(false, eval a X.env)] := by rfl) : EI X T E (.Tuple elts kk tpos) (.Call (.Name "enumerate" p) [a] [] pos) (iEn fa) :=
  pi_imp (pi_or (pi_enum hg hm (pa_cons ha pa_nil hs) hs) (pi_enumT hg hm (pa_cons ha pa_nil hs) hs)) fun σ H R q => by
  obtain ⟨ρ, aσ, st, hE, hS, h⟩ := q
  have key : ∀ W : VK, (∀ ρ1 H1 x v st1, Ext T ρ H ρ1 H1 → RlS (gOf X T) ρ1 H1 st1 → RlE (gOf X T) ρ1 H1 aσ σ → Rl (gOf X T) ρ1 H1 x v → fa aσ st = .ok x st1 → Pst (gOf X T) E ρ1 H1 (fun r _ ρ' H' => ∀ J, Wk (gOf X T) ρ' H' J r.1 r.2 → R J H') (srcEn x st1) → W v H1) → Tv (gOf X T) E fa σ H W := fun W k => by
    refine ⟨ρ, aσ, st, hE, hS, ?_⟩
    have h := h.bind
    cases q : fa aσ st with
    | ok x st1 =>
      rw [q] at h
      exact fun ρ1 H1 x1 s1 v r => k ρ1 H1 x v st1 x1 s1 (hE.ext x1) r q (h ρ1 H1 x1 s1).2.2
    | exc c w st1 => rw [q] at h; exact h
    | fail => rw [q] at h; exact h
  cases q : fa aσ st with
  | ok x st1 =>
    have sub : ∀ {x' : PV} {st2 : Store}, fa aσ st = .ok x' st2 → x' = x := fun e => by rw [q] at e; cases e; rfl
    cases x with
    | tup l =>
      refine .inr (key _ fun ρ1 H1 x v st1 x1 s1 e1 r qq h => ?_)
      cases sub qq
      cases r with
      | tup q ra => exact ⟨_, _, rfl, q.sq, h.ret s1 _ (wk_enT q ra)⟩
    | lst l =>
      refine .inl (key _ fun ρ1 H1 x v st1 x1 s1 e1 r qq h => ?_)
      cases sub qq
      cases r with
      | lst q ra => exact ⟨_, _, rfl, q.sq, h.ret s1 _ (wk_enL q ra)⟩
    | ref n =>
      refine .inl (key _ fun ρ1 H1 x v st1 x1 s1 e1 r qq h => ?_)
      cases sub qq
      unfold srcEn at h
      cases r with
      | ref q =>
        dsimp only at h
        split at h
        · rename_i l e
          cases s1.ref q e with
          | lst hh ra => exact ⟨_, _, rfl, .inl (.inl hh), h.ret s1 _ (wk_enR q)⟩
        · exact h.elim
    | _ =>
      refine .inl (key _ fun ρ1 H1 x v st1 x1 s1 e1 r qq h => ?_)
      cases sub qq
      exact h.elim
  | exc c w st1 =>
    refine .inl (key _ fun ρ1 H1 x v st1 x1 s1 e1 r qq h => ?_)
    rw [q] at qq
    cases qq
  | fail =>
    unfold iEn at h
    rw [q] at h
    exact h.elim

/-! ### list comprehensions -/
def testsOk (X : Cx) (T : TR) (E : XK) (ifs : List Expr) (f : DB) : Prop := PTs X ifs (Tb (gOf X T) E f)
def bYes : DB := fun _ st => .ok true st
theorem pts_imp {ifs : List Expr} {t t' : TT} (h : PTs X ifs t) (i : ∀ σ H Q, t' σ H Q → t σ H Q) : PTs X ifs t' := ⟨fun pins s σ H Q I q => h.run pins s σ H Q I (i σ H Q q)⟩
theorem ets_nil : testsOk X T E [] bYes := pts_imp pts_nil fun σ H W q => by
  obtain ⟨ρ, aσ, st, hE, hS, h⟩ := q
  exact h.ret hS
theorem ets_one {c : Expr} {g : DB} (h : EB X T E c g) : testsOk X T E [c] g := pts_one h
end
end DN
set_option Elab.async false
set_option linter.all false
set_option maxRecDepth 100000
set_option maxHeartbeats 2000000
/-! DnComp: list comprehensions. -/
namespace DN
open PySem PySem.Spec PyProof.Rows L2
/-- no exception leaves -/
def noX {α : Type} (r : Res α) : Res α := match r with
  | .exc _ _ _ => .fail
  | r => r
/-- the items of a comprehension -/
def lcI (t : DT) (c : DB) (e : DE) (okS : Store → Bool) (σ : AE) : List PV → M (List PV)
  | [], st => if okS st then .ok [] st else .fail
  | p :: r, st => if okS st then (noX (t p σ st)).bind fun σ' st => (noX (c σ' st)).bind fun k st =>
      if k then (noX (e σ' st)).bind fun v st => (lcI t c e okS σ r st).bind fun vs st => .ok (v :: vs) st else lcI t c e okS σ r st
    else .fail
def dCompL (s : DI) (t : DT) (c : DB) (e : DE) (w : List Nat) (m : List PV → M PV) : DE := fun σ st => (s σ st).bind fun r st => (lcI t c e r.2 (wipeA σ w) r.1 st).bind fun vs st => m vs st

section
variable {X : Cx} {T : TR} {E : XK} {G : DG} {ρ : List Addr} {H : Hp} {σ : St} {aσ : AE} {st : Store}
theorem bind_bind {α β γ : Type} (r : Res α) (f : α → Store → Res β) (g : β → Store → Res γ) : (r.bind f).bind g = r.bind fun a st => (f a st).bind g := by cases r <;> rfl
theorem pst_noX {α β : Type} {K : β → Store → List Addr → Hp → Prop} {r : Res α} {k : α → Store → Res β} (h : Pst G E ρ H K ((noX r).bind k)) : ∃ a st, r = .ok a st ∧ Pst G E ρ H K (k a st) := by
  cases r with
  | ok a st => exact ⟨a, st, rfl, h⟩
  | exc c w st => exact h.elim
  | fail => exact h.elim
theorem wipe_at (i : Nat) : ∀ (w : List Nat) (σ : St), (wipe σ w)[i]? = if i ∈ w then σ[i]?.map fun _ => none else σ[i]?
  | [], σ => by simp [wipe]
  | j :: r, σ => by
    unfold wipe
    by_cases e : j = i
    · subst e
      rw [if_pos List.mem_cons_self]
      by_cases hl : j < σ.length
      · rw [List.getElem?_set_self (by rw [wipe_length]; exact hl), List.getElem?_eq_getElem hl]
        rfl
      · rw [List.getElem?_eq_none (by rw [List.length_set, wipe_length]; omega), List.getElem?_eq_none (by omega)]
        rfl
    · rw [List.getElem?_set_ne e, wipe_at i r σ]
      by_cases h : i ∈ r
      · rw [if_pos h, if_pos (List.mem_cons_of_mem _ h)]
      · rw [if_neg h, if_neg fun z => (List.mem_cons.mp z).elim (fun z => e z.symm) h]
theorem wipe_eq {i : Nat} {v : V} {w : List Nat} {σ : St} (h : i ∈ w) : wipe (σ.set i (some v)) w = wipe σ w := by
  refine List.ext_getElem? fun n => ?_
  rw [wipe_at, wipe_at]
  by_cases e : n ∈ w
  · rw [if_pos e, if_pos e]
    by_cases hn : i = n
    · subst hn
      by_cases hl : i < σ.length
      · rw [List.getElem?_set_self hl, List.getElem?_eq_getElem hl]
        rfl
      · rw [List.getElem?_eq_none (by rw [List.length_set]; omega), List.getElem?_eq_none (by omega)]
    · rw [List.getElem?_set_ne hn]
  · rw [if_neg e, if_neg e, List.getElem?_set_ne fun z => e (by rw [← z]; exact h)]
theorem wipe_wipe {w : List Nat} {σ : St} : wipe (wipe σ w) w = wipe σ w := by
  refine List.ext_getElem? fun n => ?_
  rw [wipe_at]
  split
  · rename_i h
    rw [wipe_at, if_pos h]
    cases σ[n]? <;> rfl
  · rfl
theorem wipeA_len (w : List Nat) : ∀ aσ : AE, (wipeA aσ w).length = aσ.length := by
  induction w with
  | nil => intro _; rfl
  | cons i r ih => intro aσ; unfold wipeA; rw [ih, List.length_set]
theorem wipeA_some {i : Nat} {p : PV} : ∀ (w : List Nat) (aσ : AE), (wipeA aσ w)[i]? = some (some p) → aσ[i]? = some (some p) ∧ i ∉ w
  | [], aσ, h => ⟨h, by simp⟩
  | j :: r, aσ, h => by
    unfold wipeA at h
    obtain ⟨h1, h2⟩ := wipeA_some r _ h
    have ne : i ≠ j := fun e => by
      subst e
      have hl := (List.getElem?_eq_some_iff.mp h1).1
      rw [List.length_set] at hl
      rw [List.getElem?_set_self hl] at h1
      cases h1
    rw [List.getElem?_set_ne (Ne.symm ne)] at h1
    exact ⟨h1, fun hm => (List.mem_cons.mp hm).elim ne h2⟩
theorem RlE.wiped (w : List Nat) (h : RlE G ρ H aσ σ) : RlE G ρ H (wipeA aσ w) (L2.wipe σ w) :=
  ⟨by rw [wipeA_len, wipe_length]; exact h.len, fun i p hp => by
    obtain ⟨h1, h2⟩ := wipeA_some w _ hp
    obtain ⟨v, h3, r⟩ := h.at_ i p h1
    exact ⟨v, by rw [wipe_at, if_neg h2]; exact h3, r⟩⟩
/-- a target whose slots are all of w -/
def Tgw (G : DG) (E : XK) (w : List Nat) (f : DT) : TG := fun v σ H Q => ∃ ρ aσ st p, RlE G ρ H aσ σ ∧ RlS G ρ H st ∧ Rl G ρ H p v ∧ Pst G E ρ H (fun aσ' _ ρ' H' => ∀ σ', RlE G ρ' H' aσ' σ' → wipe σ' w = wipe σ w → Q σ' H') (f p aσ st)
def Tgws (G : DG) (E : XK) (w : List Nat) (f : DTs) : TGs := fun vs σ H Q => ∃ ρ aσ st ps, RlE G ρ H aσ σ ∧ RlS G ρ H st ∧ RlAll G ρ H ps vs ∧ Pst G E ρ H (fun aσ' _ ρ' H' => ∀ σ', RlE G ρ' H' aσ' σ' → wipe σ' w = wipe σ w → Q σ' H') (f ps aσ st)
def EGw (X : Cx) (T : TR) (E : XK) (w : List Nat) (tg : Expr) (f : DT) : Prop := PG X tg (Tgw (gOf X T) E w f)
def EGws (X : Cx) (T : TR) (E : XK) (w : List Nat) (tg : List Expr) (f : DTs) : Prop := PGs X tg (Tgws (gOf X T) E w f)
variable {pos : Pos} {w : List Nat}
theorem egw_name (i : Nat) {x : Str} (hN : X.N.Nodup) (hw : i ∈ w := by decide) (hi : X.N[i]? = some x := by rfl) (hx : Loc X.env.scope x := by first | exact Or.inl rfl | exact Or.inr rfl) (hf : X.fn x = true ∨ X.env.scope.names.lookup x = some .local := by first | exact .inl rfl | exact .inr rfl) : EGw X T E w (.Name x pos) (tName i) := pg_imp (pg_name hN hi hx hf) fun v σ H Q q => by
  obtain ⟨ρ, aσ, st, p, hE, hS, r, h⟩ := q
  exact h.ret hS _ (hE.set r) (wipe_eq hw)
theorem egws_nil : EGws X T E w [] tNil := pgs_imp pgs_nil fun vs σ H Q q => by
  obtain ⟨ρ, aσ, st, ps, hE, hS, r, h⟩ := q
  unfold tNil at h
  split at h
  · cases r; exact ⟨rfl, h.ret hS _ hE rfl⟩
  · exact h.elim
theorem egws_cons {tg : Expr} {tgs : List Expr} {t : DT} {ts : DTs} (h1 : EGw X T E w tg t) (h2 : EGws X T E w tgs ts) (hs : (assignEach (tg :: tgs) X.env).map (·.2) = assign tg X.env :: (assignEach tgs X.env).map (·.2) := by rfl) : EGws X T E w (tg :: tgs) (tCons t ts) :=
  pgs_imp (pgs_cons h1 h2 hs) fun vs σ H Q q => by
  obtain ⟨ρ, aσ, st, ps, hE, hS, r, h⟩ := q
  cases r with
  | nil => exact h.elim
  | cons r rs =>
    refine ⟨_, _, rfl, ρ, aσ, st, _, hE, hS, r, h.bind.imp fun a st1 ρ1 H1 _ _ z σ1 e1 w1 => ?_⟩
    exact ⟨ρ1, a, st1, _, e1, z.2.1, rs.ext z.1, z.2.2.imp fun b st2 ρ2 H2 _ _ k σ2 e2 w2 => k σ2 e2 (w2.trans w1)⟩
theorem egw_tup {tgs : List Expr} {ts : DTs} {k : Nat} {n : Nat} (hc : X.calm = true) (h : EGws X T E w tgs ts) (hn : (assignEach tgs X.env).length = n := by rfl) (hst : (assignEach tgs X.env).findIdx? (·.1) = none := by rfl) : EGw X T E w (.Tuple tgs k pos) (tTupP n ts) :=
  pg_imp (pg_tup hc h hn hst) fun v σ H Q q => by
  obtain ⟨ρ, aσ, st, p, hE, hS, r, h⟩ := q
  unfold tTupP at h
  split at h
  · split at h
    · rename_i l hl
      cases r with
      | tup q ra => exact ⟨_, _, rfl, q.sq, by rw [← ra.length]; exact hl, ρ, aσ, st, l, hE, hS, ra, h⟩
    · exact h.elim
  · exact h.elim
end

section
variable {X : Cx} {T : TR} {E : XK} {ρ : List Addr} {H : Hp} {σ : St} {aσ : AE} {st : Store}
variable {elt tg iter : Expr} {ifs : List Expr} {scope : Scope} {own : List (Str × Nat)} {pos : Pos} {src : DI} {t : DT} {c : DB} {e : DE}
abbrev E0' : XK := fun _ _ _ => False
/-- a list in the making at D, readings for every D -/
def anyG (X : Cx) (T : TR) (w : List Nat) (t : DT) : TG := fun v σ H Q => ∃ D, Tgw (gOf X (T.add D)) E0' w t v σ H Q
def anyB (X : Cx) (T : TR) (c : DB) : TT := fun σ H Q => ∃ D, Tb (gOf X (T.add D)) E0' c σ H Q
def anyV (X : Cx) (T : TR) (e : DE) : TE := fun σ H Q => ∃ D, Tv (gOf X (T.add D)) E0' e σ H Q
theorem lcI_noexc {t : DT} {c : DB} {e : DE} {okS : Store → Bool} {σ : AE} : ∀ (l : List PV) (st : Store) {x : Str} {w : PV} {s : Store}, lcI t c e okS σ l st ≠ .exc x w s := by
  intro l
  induction l with
  | nil => intro st x w s h; unfold lcI at h; split at h <;> cases h
  | cons p r ih =>
    intro st x w s h
    unfold lcI at h
    split at h
    · cases q1 : t p σ st with
      | ok a st1 =>
        rw [q1] at h
        simp only [noX, Res.bind] at h
        cases q2 : c a st1 with
        | ok k st2 =>
          rw [q2] at h
          simp only [noX] at h
          split at h
          · cases q3 : e a st2 with
            | ok v st3 =>
              rw [q3] at h
              simp only [noX] at h
              split at h
              · cases h
              · rename_i q4; exact ih _ q4
              · cases h
            | exc _ _ _ => rw [q3] at h; cases h
            | fail => rw [q3] at h; cases h
          · exact ih _ h
        | exc _ _ _ => rw [q2] at h; cases h
        | fail => rw [q2] at h; cases h
      | exc _ _ _ => rw [q1] at h; cases h
      | fail => rw [q1] at h; cases h
    · cases h
/-- how a comprehension's list is given -/
structure LcEnd (G : DG) (E : XK) (m : List PV → M PV) : Prop where
  nox : ∀ vs st x w s, m vs st ≠ .exc x w s
  fit : ∀ vs st st' p, m vs st = .ok p st' → vs.length ≤ SZ
  fin : ∀ (Q : VK) (ρ1 ρ : List Addr) (H1 H : Hp) (D : Addr) (vs : List PV) (acc : List V) (st : Store), Mv G.T ρ1 H1 (G.T.add D) ρ H → H1 D = none → (∀ a, NT H a → NT H1 a) → (∀ a ∈ ρ, a ∈ ρ1 ∨ NT H1 a) → (∀ a ∈ G.T.res, ¬ NT H1 a → H a = H1 a) → D ∉ G.T.res →
    RlS ⟨G.K, G.mg, G.T.add D⟩ ρ H st → H D = some (.lst acc) → RlAll ⟨G.K, G.mg, G.T.add D⟩ ρ H vs acc → Pst G E ρ1 H1 (KV G Q) (m vs st) → Q (.ref D) H
theorem mLst_end {G : DG} : LcEnd G E mLst := ⟨fun vs st x w s h => (by unfold mLst at h; split at h <;> cases h), (fun vs st st' p h => by
    unfold mLst at h
    split at h
    · assumption
    · cases h), fun Q ρ1 ρ H1 H D vs acc st mv hD fr nw rs hDr s hH ra h => by
  unfold mLst at h
  split at h
  · exact h ρ H ⟨mv.pre, fun a u r o t => (mv.keep a u r o t).1, nw, fr, mv.tups, rs⟩ (rls_out s) _ (.lst ⟨.inl hH, (s.res D List.mem_cons_self).2, hDr⟩ (ra.mv mv_out))
  · exact h.elim⟩
theorem mLstR_end {G : DG} : LcEnd G E mLstR := ⟨fun vs st x w s h => (by unfold mLstR at h; split at h <;> cases h), (fun vs st st' p h => by
    unfold mLstR at h
    split at h
    · assumption
    · cases h), fun Q ρ1 ρ H1 H D vs acc st mv hD fr nw rs hDr s hH ra h => by
  unfold mLstR at h
  split at h
  · exact h (ρ ++ [D]) H ⟨mv.pre.trans (List.prefix_append _ _), fun a u r o t => (mv.keep a u r o t).1, fun a ha => by
      rcases List.mem_append.mp ha with ha | ha
      · exact nw a ha
      · rw [List.mem_singleton.mp ha]; exact .inr (.inl hD), fr, mv.tups, rs⟩ (rls_outR s hH ra hDr) _ (.ref (by rw [← s.len]; simp))
  · exact h.elim⟩
/-- where the making of the list stands -/
def LcW (G : DG) (ρ1 : List Addr) (H1 : Hp) (D : Addr) (K : List PV → Store → Prop) (H : Hp) : Prop :=
  ∃ ρ st vs acc, Mv G.T ρ1 H1 (G.T.add D) ρ H ∧ (∀ a, NT H a → NT H1 a) ∧ (∀ a ∈ ρ, a ∈ ρ1 ∨ NT H1 a) ∧ (∀ a ∈ G.T.res, ¬ NT H1 a → H a = H1 a) ∧ RlS ⟨G.K, G.mg, G.T.add D⟩ ρ H st ∧ H D = some (.lst acc) ∧ RlAll ⟨G.K, G.mg, G.T.add D⟩ ρ H vs acc ∧ K vs st
theorem LcW.start {K : List PV → Store → Prop} {G : DG} {ρ : List Addr} {H : Hp} {D : Addr} (s : RlS G ρ H st) (hD : H D = none) (k : K [] st) : LcW G ρ H D K (upd H D (.lst [])) :=
  ⟨ρ, st, [], [], mv_in hD, fun a z => by
    by_cases e : a = D
    · rw [e]; exact .inl hD
    · exact nt_ne e z, fun a z => .inl z, fun a _ hn => upd_ne fun e => hn (by rw [e]; exact .inl hD), rls_in s hD, upd_same, .nil, k⟩
/-- a step that leaves the list as it is -/
theorem LcW.still {K : List PV → Store → Prop} {G : DG} {ρ1 ρ ρ' : List Addr} {H1 H H' : Hp} {D : Addr} {vs : List PV} {acc : List V} {st' : Store} (hD : H1 D = none) (mv : Mv G.T ρ1 H1 (G.T.add D) ρ H) (fr : ∀ a, NT H a → NT H1 a) (nw : ∀ a ∈ ρ, a ∈ ρ1 ∨ NT H1 a) (rs : ∀ a ∈ G.T.res, ¬ NT H1 a → H a = H1 a) (hH : H D = some (.lst acc)) (ra : RlAll ⟨G.K, G.mg, G.T.add D⟩ ρ H vs acc)
    (x : Ext (G.T.add D) ρ H ρ' H') (s : RlS ⟨G.K, G.mg, G.T.add D⟩ ρ' H' st') (k : K vs st') : LcW G ρ1 H1 D K H' :=
  ⟨ρ', st', vs, acc, mv.trans x.mv, fun a z => fr a (x.free a z), fun a ha => (x.new a ha).elim (nw a) fun z => .inr (fr a z), fun a ha hn => by
    have e := rs a ha hn
    rw [← e]
    exact x.rs a (List.mem_cons_of_mem _ ha) (by unfold NT at hn ⊢; rw [e]; exact hn), s, by rw [x.rs D List.mem_cons_self (nt_some hH)]; exact hH, RlAll.ext (G := ⟨G.K, G.mg, G.T.add D⟩) x ra, k⟩
theorem lc_still {G : DG} {ρ1 ρ ρ' : List Addr} {H1 H H' : Hp} {D : Addr} {vs : List PV} {acc : List V} (mv : Mv G.T ρ1 H1 (G.T.add D) ρ H) (fr : ∀ a, NT H a → NT H1 a) (nw : ∀ a ∈ ρ, a ∈ ρ1 ∨ NT H1 a) (rs : ∀ a ∈ G.T.res, ¬ NT H1 a → H a = H1 a) (hH : H D = some (.lst acc)) (ra : RlAll ⟨G.K, G.mg, G.T.add D⟩ ρ H vs acc)
    (x : Ext (G.T.add D) ρ H ρ' H') : Mv G.T ρ1 H1 (G.T.add D) ρ' H' ∧ (∀ a, NT H' a → NT H1 a) ∧ (∀ a ∈ ρ', a ∈ ρ1 ∨ NT H1 a) ∧ (∀ a ∈ G.T.res, ¬ NT H1 a → H' a = H1 a) ∧ H' D = some (.lst acc) ∧ RlAll ⟨G.K, G.mg, G.T.add D⟩ ρ' H' vs acc :=
  ⟨mv.trans x.mv, fun a z => fr a (x.free a z), fun a ha => (x.new a ha).elim (nw a) fun z => .inr (fr a z), fun a ha hn => by
    have e := rs a ha hn
    rw [← e]
    exact x.rs a (List.mem_cons_of_mem _ ha) (by unfold NT at hn ⊢; rw [e]; exact hn), by rw [x.rs D List.mem_cons_self (nt_some hH)]; exact hH, RlAll.ext (G := ⟨G.K, G.mg, G.T.add D⟩) x ra⟩
/-- an item more -/
theorem LcW.grow {K : List PV → Store → Prop} {G : DG} {ρ1 ρ : List Addr} {H1 H : Hp} {D : Addr} {vs : List PV} {acc : List V} {p : PV} {v : V} (hDr : D ∉ G.T.res) (mv : Mv G.T ρ1 H1 (G.T.add D) ρ H) (fr : ∀ a, NT H a → NT H1 a) (nw : ∀ a ∈ ρ, a ∈ ρ1 ∨ NT H1 a) (rs : ∀ a ∈ G.T.res, ¬ NT H1 a → H a = H1 a)
    (s : RlS ⟨G.K, G.mg, G.T.add D⟩ ρ H st) (hH : H D = some (.lst acc)) (ra : RlAll ⟨G.K, G.mg, G.T.add D⟩ ρ H vs acc) (r : Rl ⟨G.K, G.mg, G.T.add D⟩ ρ H p v) (k : K (vs ++ [p]) st) : LcW G ρ1 H1 D K (upd H D (.lst (acc ++ [v]))) := by
  have g : Mv (G.T.add D) ρ H (G.T.add D) ρ (upd H D (.lst (acc ++ [v]))) := mv_grow hH trivial List.mem_cons_self
  refine ⟨ρ, st, vs ++ [p], acc ++ [v], mv.trans g, fun a z => fr a ?_, nw, fun a ha hn => ?_, rls_grow s hH trivial List.mem_cons_self, upd_same, (ra.append (.cons r .nil)).mv g, k⟩
  · by_cases e : a = D
    · subst e; exact (nt_at (fun ps z => by cases z) z).elim
    · exact nt_ne e z
  · rw [upd_ne fun e => hDr (by rw [← e]; exact ha)]; exact rs a ha hn
theorem lc_read {m : List PV → M PV} {Q : VK} (hm : LcEnd (gOf X T) E m) (q : Tv (gOf X T) E (dCompL src t c e (own.map (·.2)) m) σ H Q) :
    tLc (Ti (gOf X T) E src) (anyG X T (own.map (·.2)) t) (anyB X T c) (anyV X T e) (own.map (·.2)) σ H Q := by
  obtain ⟨ρ, aσ, st, hE, hS, h⟩ := q
  refine ti_bind hE hS h fun ρ1 H1 r st1 J x1 s1 e1 wk h => ?_
  obtain ⟨l, ok⟩ := r
  intro D hD
  have hDr : D ∉ T.res := fun z => (s1.res D z).1 (.inl hD)
  have hw : ∀ i st vs, Pst (gOf X T) E ρ1 H1 (KV (gOf X T) Q) ((lcI t c e ok (wipeA aσ (own.map (·.2))) (l.drop i) st).bind fun vs' st => m (vs ++ vs') st) → vs.length ≤ SZ := fun i st vs h => by
    cases q : lcI t c e ok (wipeA aσ (own.map (·.2))) (l.drop i) st with
    | ok vs' st' =>
      rw [q] at h
      cases q2 : m (vs ++ vs') st' with
      | ok p st2 => have := hm.fit _ _ _ _ q2; rw [List.length_append] at this; omega
      | exc _ _ _ => exact absurd q2 (hm.nox _ _ _ _ _)
      | fail => rw [show (Res.ok vs' st').bind _ = m (vs ++ vs') st' from rfl, q2] at h; exact h.elim
    | exc _ _ _ => exact absurd q (lcI_noexc _ _)
    | fail => rw [q] at h; exact h.elim
  refine ⟨fun i mm H => mm = l.length - i ∧ i ≤ l.length ∧ LcW (gOf X T) ρ1 H1 D (fun vs st => Pst (gOf X T) E ρ1 H1 (KV (gOf X T) Q) ((lcI t c e ok (wipeA aσ (own.map (·.2))) (l.drop i) st).bind fun vs' st => m (vs ++ vs') st)) H, ⟨l.length, by simp, Nat.zero_le _, .start s1 hD h⟩, ?_⟩
  rintro i mm H ⟨rfl, hil, ρ, st, vs, acc, mv, fr, nw, rs, s, hH, ra, h⟩
  by_cases hlt : i < l.length
  · rw [drop_some hlt] at h
    unfold lcI at h
    split at h
    · rename_i hok
      obtain ⟨h1, h2, h3⟩ := wk (T.add D) ρ H st mv s hok
      refine .inr ⟨h1 i hlt, LcW (gOf X T) ρ1 H1 D (fun vs st => Pst (gOf X T) E ρ1 H1 (KV (gOf X T) Q) ((lcI t c e ok (wipeA aσ (own.map (·.2))) (l.drop (i + 1)) st).bind fun vs' st => m (vs ++ vs') st)), fun H' z => ⟨l.length - (i + 1), by omega, rfl, hlt, z⟩, fun v H' y => ?_⟩
      obtain ⟨xx, ss, rr⟩ := h3 i v H' l[i] (List.getElem?_eq_getElem hlt) y
      rw [bind_bind] at h
      obtain ⟨aσ2, st2, et, h⟩ := pst_noX h
      rw [bind_bind] at h
      obtain ⟨k, st3, ec, h⟩ := pst_noX h
      have eE := (RlE.ext (G := gOf X (T.add D)) xx (RlE.mv (K := X.K) (mg := X.mg) mv e1)).wiped (own.map (·.2))
      refine ⟨D, ρ, _, st, l[i], eE, ss, rr, ?_⟩
      rw [et]
      intro ρ2 H2 x2 s2 σ' e2 w2
      refine ⟨w2.trans wipe_wipe, D, ρ2, aσ2, st2, e2, s2, ?_⟩
      rw [ec]
      intro ρ3 H3 x3 s3
      have e3 := RlE.ext (G := gOf X (T.add D)) x3 e2
      have x03 := (xx.trans x2).trans x3
      cases k with
      | false => exact ite_ff (LcW.still hD mv fr nw rs hH ra x03 s3 h)
      | true =>
        refine ite_tt ?_
        rw [if_pos rfl, bind_bind] at h
        obtain ⟨p, st4, ee, h⟩ := pst_noX h
        refine ⟨D, ρ3, aσ2, st3, e3, s3, ?_⟩
        rw [ee]
        intro ρ4 H4 x4 s4 v' rv
        have h' : Pst (gOf X T) E ρ1 H1 (KV (gOf X T) Q) ((lcI t c e ok (wipeA aσ (own.map (·.2))) (l.drop (i + 1)) st4).bind fun vs' st => m ((vs ++ [p]) ++ vs') st) := by
          rw [bind_bind] at h
          simpa [Res.bind, List.append_assoc] using h
        obtain ⟨mv5, fr5, nw5, rs5, hH5, ra5⟩ := lc_still mv fr nw rs hH ra (x03.trans x4)
        have hz := hw (i + 1) st4 (vs ++ [p]) h'
        refine ⟨acc, hH5, ?_, LcW.grow hDr mv5 fr5 nw5 rs5 s4 hH5 ra5 rv h'⟩
        rw [List.length_append, ra.length, List.length_singleton] at hz
        rw [SZ_eq]
        omega
    · exact h.elim
  · have ei : i = l.length := by omega
    subst ei
    rw [List.drop_length] at h
    unfold lcI at h
    split at h
    · rename_i hok
      obtain ⟨h1, h2, h3⟩ := wk (T.add D) ρ H st mv s hok
      refine .inl ⟨h2, hm.fin Q ρ1 ρ H1 H D vs acc st mv hD fr nw rs hDr s hH ra ?_⟩
      simpa [Res.bind] using h
    · exact h.elim

/-! ### the rules -/
theorem any_g {X' : Cx} {tg : Expr} {w : List Nat} (h : ∀ D, PG X' tg (Tgw (gOf X (T.add D)) E0' w t)) : PG X' tg (anyG X T w t) := ⟨fun pins s σ H v u Q I r ⟨D, q⟩ => (h D).run pins s σ H v u Q I r q⟩
theorem any_t {X' : Cx} (h : ∀ D, PTs X' ifs (Tb (gOf X (T.add D)) E0' c)) : PTs X' ifs (anyB X T c) := ⟨fun pins s σ H Q I ⟨D, q⟩ => (h D).run pins s σ H Q I q⟩
theorem any_v {X' : Cx} {e' : Expr} (h : ∀ D, PE X' e' (Tv (gOf X (T.add D)) E0' e)) : PE X' e' (anyV X T e) := ⟨fun pins s σ H Q I ⟨D, q⟩ => (h D).run pins s σ H Q I q⟩
theorem ev_lc {m : List PV → M PV} (hm : LcEnd (gOf X T) E m) (hc : X.calm = true) (hN : X.N.Nodup) (hi : EI X T E tg iter src) (ok : BlkOk X.N X.env.scope scope own)
    (hg : ∀ (D : Addr) (s : Shared) (H : Hp) (C : Addr) (cl : List (Str × Addr)) (fp : List Addr), EGw (X.blk s H scope (compEnvC scope cl C X.env) fp) (T.add D) E0' (own.map (·.2)) tg t)
    (ht : ∀ (D : Addr) (s : Shared) (H : Hp) (C : Addr) (cl : List (Str × Addr)) (fp : List Addr), testsOk (X.blk s H scope (compEnvC scope cl C X.env) fp) (T.add D) E0' ifs c)
    (he : ∀ (D : Addr) (s : Shared) (H : Hp) (C : Addr) (cl : List (Str × Addr)) (fp : List Addr), EV (X.blk s H scope (compEnvC scope cl C X.env) fp) (T.add D) E0' elt e) (hs : ∀ x, foldedSetIterable iter X.env x = pure x := by intro _; rfl) :
    EV X T E (.ListComp elt [⟨tg, iter, ifs, 0⟩] scope pos) (dCompL src t c e (own.map (·.2)) m) :=
  pe_imp (pe_lc hc hN hi ok (fun s H C cl fp => any_g fun D => hg D s H C cl fp) (fun s H C cl fp => any_t fun D => ht D s H C cl fp) (fun s H C cl fp => any_v fun D => he D s H C cl fp) hs) fun σ H Q q => lc_read hm q
/-- y = [..] on one line -/
theorem es_setLc {m : List PV → M PV} {i : Nat} {y : Str} {py spos : Pos} (hm : LcEnd (gOf X T) E m) (hc : X.calm = true) (hN : X.N.Nodup) (hy : X.N[i]? = some y) (hyl : X.env.scope.names.lookup y = some .local)
    (hsw : swapsWith (.ListComp elt [⟨tg, iter, ifs, 0⟩] scope pos) (some (.Name y py)) spos.line X.env = pure true) (hi : EI X T E tg iter src) (ok : BlkOk X.N X.env.scope scope own)
    (hg : ∀ (D : Addr) (s : Shared) (H : Hp) (C : Addr) (cl : List (Str × Addr)) (fp : List Addr), EGw (X.blk s H scope (compEnvC scope cl C X.env) fp) (T.add D) E0' (own.map (·.2)) tg t)
    (ht : ∀ (D : Addr) (s : Shared) (H : Hp) (C : Addr) (cl : List (Str × Addr)) (fp : List Addr), testsOk (X.blk s H scope (compEnvC scope cl C X.env) fp) (T.add D) E0' ifs c)
    (he : ∀ (D : Addr) (s : Shared) (H : Hp) (C : Addr) (cl : List (Str × Addr)) (fp : List Addr), EV (X.blk s H scope (compEnvC scope cl C X.env) fp) (T.add D) E0' elt e) (hs : ∀ x, foldedSetIterable iter X.env x = pure x := by intro _; rfl) :
    ES X T E (.Assign [.Name y py] (.ListComp elt [⟨tg, iter, ifs, 0⟩] scope pos) spos) (sAsg (dCompL src t c e (own.map (·.2)) m) (tName i)) :=
  ps_imp (ps_setLc hc hN hy hyl hsw hi ok (fun s H C cl fp => any_g fun D => hg D s H C cl fp) (fun s H C cl fp => any_t fun D => ht D s H C cl fp) (fun s H C cl fp => any_v fun D => he D s H C cl fp) hs) fun D σ H q => by
  obtain ⟨ρ, aσ, st, hE, hS, h⟩ := q
  refine lc_read (Q := fun x H1 => D.nx (σ.set i (some x)) H1) hm ⟨ρ, aσ, st, hE, hS, h.bind.imp fun p st1 ρ1 H1 _ _ z v r => ?_⟩
  exact z.2.2.ret z.2.1 _ ((hE.ext z.1).set r)
end
end DN
set_option Elab.async false
set_option linter.all false
set_option maxRecDepth 100000
set_option maxHeartbeats 2000000
/-! DnFun: what a def computes; what it made by itself is let go at its end; its call. -/
namespace DN
open PySem PySem.Spec PyProof.Rows L2

/-! ### letting go -/
mutual
def mapV (g : Nat → Option PV) : PV → Option PV
  | .tup l => (mapVs g l).map .tup
  | .lst l => (mapVs g l).map .lst
  | .dK ks vs => (mapVs g vs).map (.dK ks)
  | .dT ks vs => (mapVs g vs).map (.dT ks)
  | .ref n => g n
  | .non => some .non
  | .bl b => some (.bl b)
  | .int i => some (.int i)
  | .str x => some (.str x)
  | .con x => some (.con x)
  | .ty n => some (.ty n)
  | .scr l => (mapVs g l).map .scr
  | .err c w => (mapV g w).map (.err c)
def mapVs (g : Nat → Option PV) : List PV → Option (List PV)
  | [] => some []
  | p :: ps => (mapV g p).bind fun q => (mapVs g ps).map fun qs => q :: qs
end
/-- the n-th object as a value that nobody changes any more, if it is none of the first k -/
def clipR (k : Nat) (st : Store) : Nat → Nat → Option PV
  | 0, n => if n < k then some (.ref n) else none
  | f + 1, n => if n < k then some (.ref n) else match st[n]? with
    | some (.lst l) => (mapVs (clipR k st f) l).map .lst
    | some (.dK es) => (mapVs (clipR k st f) (es.map (·.2))).map (.dK (es.map (·.1)))
    | some (.dT es) => (mapVs (clipR k st f) (es.map (·.2))).map (.dT (es.map (·.1)))
    | _ => none
def clip (k : Nat) (st : Store) (p : PV) : Option PV := mapV (clipR k st 6) p
def clipO (k : Nat) (st : Store) : SO → Option SO
  | .lst l => (mapVs (clipR k st 6) l).map .lst
  | .dK es => (mapVs (clipR k st 6) (es.map (·.2))).map fun vs => .dK ((es.map (·.1)).zip vs)
  | .dT es => (mapVs (clipR k st 6) (es.map (·.2))).map fun vs => .dT ((es.map (·.1)).zip vs)
  | .ins C fs => (mapVs (clipR k st 6) (fs.map (·.2))).map fun vs => .ins C ((fs.map (·.1)).zip vs)
open Classical in
noncomputable def gcO (k : Nat) (st : Store) (o o' : SO) : Option SO := if o = o' then some o else clipO k st o'
noncomputable def gcS (k : Nat) (st : Store) : List SO → List SO → Option (List SO)
  | [], _ => some []
  | o :: r, o' :: r' => (gcO k st o o').bind fun x => (gcS k st r r').map (x :: ·)
  | _, [] => none
noncomputable def gcR (st : Store) (r : Res PV) : Res PV := match r with
  | .ok v st' => (match clip st.length st' v, gcS st.length st' st st' with
    | some v, some s => .ok v s
    | _, _ => .fail)
  | .exc c v st' => (match clip st.length st' v, gcS st.length st' st st' with
    | some v, some s => .exc c v s
    | _, _ => .fail)
  | .fail => .fail

section
variable {G : DG} {E : XK} {ρ ρ' : List Addr} {H H' : Hp} {st st' : Store}
theorem mapVs_len {g : Nat → Option PV} : ∀ {l l' : List PV}, mapVs g l = some l' → l'.length = l.length
  | [], l', h => by simp only [mapVs, Option.some.injEq] at h; subst h; rfl
  | p :: ps, l', h => by
    simp only [mapVs] at h
    obtain ⟨q, e1, h⟩ := Option.bind_eq_some_iff.mp h
    obtain ⟨qs, e2, rfl⟩ := Option.map_eq_some_iff.mp h
    simp [mapVs_len e2]
theorem out_pre {T : TR} (pre : ρ <+: ρ') {a : Addr} (o : Out T ρ' a) : Out T ρ a := ⟨fun h => o.1 (pre.subset h), o.2⟩
theorem isW_map {g : Nat → Option PV} {l l' : List PV} (w : isW l = true) (h : mapVs g l = some l') : isW l' = true := by
  unfold isW at w
  split at w
  · simp only [mapVs, mapV, Option.bind_some, Option.map_some, Option.some.injEq] at h
    subst h
    exact w
  · simp only [mapVs, mapV, Option.bind_some, Option.map_some, Option.some.injEq] at h
    subst h
    exact w
  · rename_i x y z r
    simp only [mapVs, mapV, Option.bind_some, Option.map_some] at h
    cases e : mapVs g r with
    | none => rw [e] at h; cases h
    | some r' =>
      rw [e] at h
      simp only [Option.map_some, Option.some.injEq] at h
      subst h
      cases r' <;> rfl
  · cases w
/-- it gives what is no scalar, no tuple -/
def NoTup (g : Nat → Option PV) : Prop := ∀ n p, g n = some p → match p with
  | .ref _ => True
  | .lst _ => True
  | .dK _ _ => True
  | .dT _ _ => True
  | _ => False
theorem mapV_str {g : Nat → Option PV} (hn : NoTup g) {p : PV} {x : Str} (h : mapV g p = some (.str x)) : p = .str x := by
  cases p with
  | ref n => exact False.elim (hn n _ (by simpa only [mapV] using h))
  | str y => simpa [mapV] using h
  | tup l => simp [mapV] at h
  | lst l => simp [mapV] at h
  | scr l => simp [mapV] at h
  | err _ _ => simp [mapV] at h
  | dK _ l => simp [mapV] at h
  | dT _ l => simp [mapV] at h
  | _ => simp [mapV] at h
theorem mapV_int {g : Nat → Option PV} (hn : NoTup g) {p : PV} {x : Int} (h : mapV g p = some (.int x)) : p = .int x := by
  cases p with
  | ref n => exact False.elim (hn n _ (by simpa only [mapV] using h))
  | int y => simpa [mapV] using h
  | tup l => simp [mapV] at h
  | lst l => simp [mapV] at h
  | scr l => simp [mapV] at h
  | err _ _ => simp [mapV] at h
  | dK _ l => simp [mapV] at h
  | dT _ l => simp [mapV] at h
  | _ => simp [mapV] at h
theorem mapVs_cons {g : Nat → Option PV} {l : List PV} {q : PV} {qs : List PV} (h : mapVs g l = some (q :: qs)) : ∃ p ps, l = p :: ps ∧ mapV g p = some q ∧ mapVs g ps = some qs := by
  cases l with
  | nil => simp [mapVs] at h
  | cons p ps =>
    simp only [mapVs] at h
    obtain ⟨q', e1, h⟩ := Option.bind_eq_some_iff.mp h
    obtain ⟨qs', e2, h⟩ := Option.map_eq_some_iff.mp h
    cases h
    exact ⟨p, ps, rfl, e1, e2⟩
theorem mapVs_nil {g : Nat → Option PV} {l : List PV} (h : mapVs g l = some []) : l = [] := by
  cases l with
  | nil => rfl
  | cons p ps =>
    simp only [mapVs] at h
    obtain ⟨q', e1, h⟩ := Option.bind_eq_some_iff.mp h
    obtain ⟨qs', e2, h⟩ := Option.map_eq_some_iff.mp h
    cases h
theorem mapV_apart {g : Nat → Option PV} (hn : NoTup g) {p : PV} {x : Str} (h : mapV g p = some (.tup [.str x, .int 0])) : p = .tup [.str x, .int 0] := by
  cases p with
  | tup l =>
    simp only [mapV] at h
    obtain ⟨l', e, e2⟩ := Option.map_eq_some_iff.mp h
    cases e2
    obtain ⟨p1, r, rfl, h1, e⟩ := mapVs_cons e
    obtain ⟨p2, r, rfl, h2, e⟩ := mapVs_cons e
    cases mapVs_nil e
    rw [mapV_str hn h1, mapV_int hn h2]
  | ref n => exact False.elim (hn n _ (by simpa only [mapV] using h))
  | lst l => simp [mapV] at h
  | scr l => simp [mapV] at h
  | err _ _ => simp [mapV] at h
  | dK _ l => simp [mapV] at h
  | dT _ l => simp [mapV] at h
  | _ => simp [mapV] at h
theorem isF_apart (x : Str) : ∀ l : List PV, isF (.tup [.str x, .int 0] :: l) = decide (x = ("apart" : Str)) := fun _ => rfl
theorem isF_some {l : List PV} (h : isF l = true) : ∃ x r, l = .tup [.str x, .int 0] :: r := by
  unfold isF at h
  split at h
  · exact ⟨_, _, rfl⟩
  · cases h
theorem isF_map {g : Nat → Option PV} (hn : NoTup g) {l l' : List PV} (h : mapVs g l = some l') : isF l' = isF l := by
  rw [Bool.eq_iff_iff]
  constructor
  · intro w
    obtain ⟨x, r, rfl⟩ := isF_some w
    obtain ⟨p, ps, rfl, h1, h2⟩ := mapVs_cons h
    rw [mapV_apart hn h1]
    exact w
  · intro w
    obtain ⟨x, r, rfl⟩ := isF_some w
    simp only [mapVs, mapV, Option.bind_some, Option.map_some] at h
    obtain ⟨qs, _, h⟩ := Option.map_eq_some_iff.mp h
    cases h
    exact w
mutual
theorem mapV_rl {g : Nat → Option PV} (pre : ρ <+: ρ') (hn : NoTup g) (hg : ∀ n q a, g n = some q → ρ'[n]? = some a → Rl G ρ H q (.ref a)) : ∀ (p : PV) {q : PV} {v : V}, mapV g p = some q → Rl G ρ' H p v → Rl G ρ H q v
  | .tup l, q, v, h, r => by
    simp only [mapV] at h
    obtain ⟨l', e, rfl⟩ := Option.map_eq_some_iff.mp h
    cases r with
    | tup q ra =>
      have ra' := mapVs_rl pre hn hg l e ra
      refine .tup (xs := _) ?_ ra'
      rcases q with q | ⟨q1, q2⟩
      · refine .inl ?_
        rw [isF_map hn e]
        exact q
      · exact .inr ⟨isW_map q1 e, q2⟩
  | .lst l, q, v, h, r => by
    simp only [mapV] at h
    obtain ⟨l', e, rfl⟩ := Option.map_eq_some_iff.mp h
    cases r with
    | lst q ra => exact .lst ⟨q.1, out_pre pre q.2⟩ (mapVs_rl pre hn hg l e ra)
  | .scr l, q, v, h, r => by
    simp only [mapV] at h
    obtain ⟨l', e, rfl⟩ := Option.map_eq_some_iff.mp h
    cases r with
    | scr q ra => exact .scr (q.imp (fun q => ⟨q.1, out_pre pre q.2⟩) id) (mapVs_rl pre hn hg l e ra)
  | .err c w, q, v, h, r => by
    simp only [mapV] at h
    obtain ⟨w', e, rfl⟩ := Option.map_eq_some_iff.mp h
    cases r with
    | err h1 h2 h3 h4 => exact .err h1 h2 (out_pre pre h3) (mapV_rl pre hn hg w e h4)
  | .dK ks vs, q, v, h, r => by
    simp only [mapV] at h
    obtain ⟨l', e, rfl⟩ := Option.map_eq_some_iff.mp h
    cases r with
    | dK h n k ra => exact .dK h (out_pre pre n) k (mapVs_rl pre hn hg vs e ra)
  | .dT ks vs, q, v, h, r => by
    simp only [mapV] at h
    obtain ⟨l', e, rfl⟩ := Option.map_eq_some_iff.mp h
    cases r with
    | dT h n k ra => exact .dT h (out_pre pre n) k (mapVs_rl pre hn hg vs e ra)
  | .ref n, q, v, h, r => by
    simp only [mapV] at h
    cases r with
    | ref e => exact hg n q _ h e
  | .non, q, v, h, r => by simp only [mapV, Option.some.injEq] at h; subst h; cases r; exact .non
  | .bl b, q, v, h, r => by simp only [mapV, Option.some.injEq] at h; subst h; cases r; exact .bl b
  | .int b, q, v, h, r => by simp only [mapV, Option.some.injEq] at h; subst h; cases r; exact .int b
  | .str b, q, v, h, r => by simp only [mapV, Option.some.injEq] at h; subst h; cases r; exact .str b
  | .con b, q, v, h, r => by
    simp only [mapV, Option.some.injEq] at h; subst h
    cases r with
    | con e => exact .con e
  | .ty b, q, v, h, r => by simp only [mapV, Option.some.injEq] at h; subst h; cases r; exact .ty b
theorem mapVs_rl {g : Nat → Option PV} (pre : ρ <+: ρ') (hn : NoTup g) (hg : ∀ n q a, g n = some q → ρ'[n]? = some a → Rl G ρ H q (.ref a)) : ∀ (ps : List PV) {qs : List PV} {vs : List V}, mapVs g ps = some qs → RlAll G ρ' H ps vs → RlAll G ρ H qs vs
  | [], qs, vs, h, r => by simp only [mapVs, Option.some.injEq] at h; subst h; cases r; exact .nil
  | p :: ps, qs, vs, h, r => by
    simp only [mapVs] at h
    obtain ⟨q, e1, h⟩ := Option.bind_eq_some_iff.mp h
    obtain ⟨qs', e2, rfl⟩ := Option.map_eq_some_iff.mp h
    cases r with
    | cons r1 r2 => exact .cons (mapV_rl pre hn hg p e1 r1) (mapVs_rl pre hn hg ps e2 r2)
end
/-- what is there at the entry names but what is there at the entry -/
def idLt (k : Nat) (n : Nat) : Option PV := if n < k then some (.ref n) else none
mutual
theorem idLt_rl : ∀ (p : PV) {v : V}, Rl G ρ H p v → mapV (idLt ρ.length) p = some p
  | .tup l, v, r => by
    cases r with
    | tup q ra => simp only [mapV, idLt_rls l ra, Option.map_some]
  | .lst l, v, r => by
    cases r with
    | lst q ra => simp only [mapV, idLt_rls l ra, Option.map_some]
  | .scr l, v, r => by
    cases r with
    | scr q ra => simp only [mapV, idLt_rls l ra, Option.map_some]
  | .err c w, v, r => by
    cases r with
    | err h1 h2 h3 h4 => simp only [mapV, idLt_rl w h4, Option.map_some]
  | .dK ks vs, v, r => by
    cases r with
    | dK h n k ra => simp only [mapV, idLt_rls vs ra, Option.map_some]
  | .dT ks vs, v, r => by
    cases r with
    | dT h n k ra => simp only [mapV, idLt_rls vs ra, Option.map_some]
  | .ref n, v, r => by
    cases r with
    | ref e =>
      have hn := (List.getElem?_eq_some_iff.mp e).1
      simp only [mapV, idLt, if_pos hn]
  | .non, v, r => by simp only [mapV]
  | .bl b, v, r => by simp only [mapV]
  | .int b, v, r => by simp only [mapV]
  | .str b, v, r => by simp only [mapV]
  | .con b, v, r => by simp only [mapV]
  | .ty b, v, r => by simp only [mapV]
theorem idLt_rls : ∀ (ps : List PV) {vs : List V}, RlAll G ρ H ps vs → mapVs (idLt ρ.length) ps = some ps
  | [], vs, r => by simp only [mapVs]
  | p :: ps, vs, r => by
    cases r with
    | cons r1 r2 => simp only [mapVs, idLt_rl p r1, idLt_rls ps r2, Option.bind_some, Option.map_some]
end
theorem idLt_no {k : Nat} : NoTup (idLt k) := fun n p h => by
  unfold idLt at h
  split at h
  · cases h; trivial
  · cases h
theorem clipR_no {k : Nat} {st : Store} : ∀ f, NoTup (clipR k st f) := by
  intro f n p h
  cases f with
  | zero =>
    unfold clipR at h
    split at h
    · cases h; trivial
    · cases h
  | succ f =>
    unfold clipR at h
    split at h
    · cases h; trivial
    · split at h
      · obtain ⟨_, _, e⟩ := Option.map_eq_some_iff.mp h; cases e; trivial
      · obtain ⟨_, _, e⟩ := Option.map_eq_some_iff.mp h; cases e; trivial
      · obtain ⟨_, _, e⟩ := Option.map_eq_some_iff.mp h; cases e; trivial
      · cases h
theorem idLt_ok (pre : ρ <+: ρ') : ∀ n q a, idLt ρ.length n = some q → ρ'[n]? = some a → Rl G ρ H q (.ref a) := fun n q a h e => by
  unfold idLt at h
  split at h
  · rename_i hn
    cases h
    obtain ⟨t, rfl⟩ := pre
    rw [List.getElem?_append_left hn] at e
    exact .ref e
  · cases h
theorem shrink_all {ps : List PV} {ws vs : List V} (pre : ρ <+: ρ') (r0 : RlAll G ρ H ps ws) (r : RlAll G ρ' H' ps vs) : RlAll G ρ H' ps vs :=
  mapVs_rl pre idLt_no (idLt_ok pre) ps (idLt_rls ps r0) r
theorem clipR_rl (pre : ρ <+: ρ') (hS : RlS G ρ' H st') : ∀ (f n : Nat) (q : PV) (a : Addr), clipR ρ.length st' f n = some q → ρ'[n]? = some a → Rl G ρ H q (.ref a) := by
  intro f
  induction f with
  | zero =>
    intro n q a h e
    exact idLt_ok pre n q a h e
  | succ f ih =>
    intro n q a h e
    unfold clipR at h
    split at h
    · rename_i hn
      exact idLt_ok pre n q a (by rw [← h]; simp [idLt, hn]) e
    · rename_i hn
      have out : Out G.T ρ a := ⟨fun hm => by
        obtain ⟨m, hm1, hm2⟩ := List.mem_iff_getElem.mp hm
        obtain ⟨t, rfl⟩ := pre
        have e1 : (ρ ++ t)[m]? = some a := by rw [List.getElem?_append_left hm1, List.getElem?_eq_getElem hm1, hm2]
        exact hS.ne e1 e (fun z => hn (z ▸ hm1)) rfl, fun hm => (hS.res a hm).2 (List.mem_of_getElem? e)⟩
      split at h
      · rename_i l es
        obtain ⟨l', e1, rfl⟩ := Option.map_eq_some_iff.mp h
        cases hS.ref e es with
        | lst hh ra => exact .lst ⟨.inl hh, out⟩ (mapVs_rl pre (clipR_no _) ih l e1 ra)
      · rename_i es e2
        obtain ⟨l', e1, rfl⟩ := Option.map_eq_some_iff.mp h
        cases hS.ref e e2 with
        | dK hh hk ra => exact .dK (.inl hh) out hk (mapVs_rl pre (clipR_no _) ih _ e1 ra)
      · rename_i es e2
        obtain ⟨l', e1, rfl⟩ := Option.map_eq_some_iff.mp h
        cases hS.ref e e2 with
        | dT hh hk ra => exact .dT (.inl hh) out hk (mapVs_rl pre (clipR_no _) ih _ e1 ra)
      · cases h
theorem zip_snd {κ : Type} : ∀ (es : List (κ × PV)) (vs : List PV), vs.length = (es.map (·.2)).length → ((es.map (·.1)).zip vs).map (·.1) = es.map (·.1) ∧ ((es.map (·.1)).zip vs).map (·.2) = vs := fun es vs h => by
  have := zip_fst (es.map (·.1)) vs (by rw [h]; simp)
  exact this
theorem clipO_rl (pre : ρ <+: ρ') (hS : RlS G ρ' H st') {o o' : SO} {a : Addr} (h : clipO ρ.length st' o = some o') (r : RlO G ρ' H o a) : RlO G ρ H o' a := by
  cases r with
  | lst hh ra =>
    obtain ⟨l', e1, rfl⟩ := Option.map_eq_some_iff.mp h
    exact .lst hh (mapVs_rl pre (clipR_no 6) (clipR_rl pre hS 6) _ e1 ra)
  | dK hh hk ra =>
    obtain ⟨l', e1, rfl⟩ := Option.map_eq_some_iff.mp h
    obtain ⟨z1, z2⟩ := zip_snd _ l' (mapVs_len e1)
    exact .dK hh (by rw [z1]; exact hk) (by rw [z2]; exact mapVs_rl pre (clipR_no 6) (clipR_rl pre hS 6) _ e1 ra)
  | dT hh hk ra =>
    obtain ⟨l', e1, rfl⟩ := Option.map_eq_some_iff.mp h
    obtain ⟨z1, z2⟩ := zip_snd _ l' (mapVs_len e1)
    exact .dT hh (by rw [z1]; exact hk) (by rw [z2]; exact mapVs_rl pre (clipR_no 6) (clipR_rl pre hS 6) _ e1 ra)
  | ins hc hh hk ra =>
    obtain ⟨l', e1, rfl⟩ := Option.map_eq_some_iff.mp h
    obtain ⟨z1, z2⟩ := zip_snd _ l' (mapVs_len e1)
    exact .ins hc hh (by rw [z1]; exact hk) (by rw [z2]; exact mapVs_rl pre (clipR_no 6) (clipR_rl pre hS 6) _ e1 ra)
theorem gcS_at {k : Nat} : ∀ {l l' s : List SO}, gcS k st' l l' = some s → s.length = l.length ∧ ∀ (n : Nat) (o : SO), s[n]? = some o → ∃ o1 o2, l[n]? = some o1 ∧ l'[n]? = some o2 ∧ gcO k st' o1 o2 = some o
  | [], l', s, h => by simp only [gcS, Option.some.injEq] at h; subst h; exact ⟨rfl, fun n o h => by simp at h⟩
  | o :: r, [], s, h => by simp [gcS] at h
  | o :: r, o' :: r', s, h => by
    simp only [gcS] at h
    obtain ⟨x, e1, h⟩ := Option.bind_eq_some_iff.mp h
    obtain ⟨s', e2, rfl⟩ := Option.map_eq_some_iff.mp h
    obtain ⟨h1, h2⟩ := gcS_at e2
    refine ⟨by simp [h1], fun n u hn => ?_⟩
    cases n with
    | zero => simp at hn; subst hn; exact ⟨o, o', rfl, rfl, e1⟩
    | succ n => exact h2 n u (by simpa using hn)
theorem gcS_rl {s : Store} (hS : RlS G ρ H st) (x : Ext G.T ρ H ρ' H') (hS' : RlS G ρ' H' st') (h : gcS st.length st' st st' = some s) : RlS G ρ H' s := by
  obtain ⟨hl, ha⟩ := gcS_at h
  refine ⟨by rw [hl]; exact hS.len, hS.nd, fun n o a h1 h2 => ?_, hS'.tabs, fun a hm => ⟨(hS'.res a hm).1, fun z => (hS'.res a hm).2 (x.pre.subset z)⟩⟩
  obtain ⟨o1, o2, e1, e2, e3⟩ := ha n o h1
  have h3 : ρ'[n]? = some a := by
    obtain ⟨t, et⟩ := x.pre
    rw [← et, List.getElem?_append_left (List.getElem?_eq_some_iff.mp h2).1]
    exact h2
  have r' := hS'.ref h3 e2
  unfold gcO at e3
  split at e3
  · rename_i eo
    subst eo
    cases e3
    have r0 := hS.ref h2 e1
    cases r0 with
    | lst hh ra =>
      cases r' with
      | lst hh' ra' => exact .lst hh' (shrink_all x.pre ra ra')
    | dK hh hk ra =>
      cases r' with
      | dK hh' hk' ra' => exact .dK hh' hk' (shrink_all x.pre ra ra')
    | dT hh hk ra =>
      cases r' with
      | dT hh' hk' ra' => exact .dT hh' hk' (shrink_all x.pre ra ra')
    | ins hc hh hk ra =>
      cases r' with
      | ins hc' hh' hk' ra' => exact .ins hc' hh' hk' (shrink_all x.pre ra ra')
  · rw [← hS.len] at e3
    exact clipO_rl x.pre hS' e3 r'
theorem Ext.short (x : Ext G.T ρ H ρ' H') : Ext G.T ρ H ρ H' := ⟨List.prefix_refl _, x.keep, fun _ h => .inl h, x.free, x.tups, x.rs⟩
theorem gc_ok {Q : VK} {r : Res PV} (hS : RlS G ρ H st) (h : Pst G E ρ H (KV G Q) (gcR st r)) : Pst G E ρ H (KV G Q) r := by
  cases r with
  | ok p st' =>
    unfold gcR at h
    dsimp only at h
    split at h
    · rename_i v s e1 e2
      intro ρ' H' x s' u r
      refine h ρ H' x.short (gcS_rl hS x s' e2) u ?_
      rw [← hS.len] at e1
      exact mapV_rl x.pre (clipR_no 6) (clipR_rl x.pre s' 6) p e1 r
    · exact h.elim
  | exc c p st' =>
    unfold gcR at h
    dsimp only at h
    split at h
    · rename_i v s e1 e2
      intro ρ' H' ca d u x s' hc hd hn r
      refine h ρ H' ca d u x.short (gcS_rl hS x s' e2) hc hd (out_pre x.pre hn) ?_
      rw [← hS.len] at e1
      exact mapV_rl x.pre (clipR_no 6) (clipR_rl x.pre s' 6) p e1 r
    · exact h.elim
  | fail => exact h
end

/-! ### defs -/
/-- a def of n parameters, m names; its objects stay -/
def dFnK (n m : Nat) (f : DS) (ps : List PV) : M PV := fun st => if ps.length = n then (f (ps.map some ++ List.replicate (m - n) none) st).bind fun r st' => match r.1 with
  | .rt v => .ok v st'
  | .nx => .ok .non st'
  | _ => .fail
  else .fail
/-- its objects are let go -/
noncomputable def dFn (n m : Nat) (f : DS) (ps : List PV) : M PV := fun st => gcR st (dFnK n m f ps st)
/-- nothing is being handled; the tables of code objects are these -/
def Tok (tb : List (Addr × Str)) (T : TR) : Prop := T.err = none ∧ T.tabs = tb
/-- the promise -/
def spD (K : PySem.W.Frag) (mg : Str → Option Value) (tb : List (Addr × Str)) (n : Nat) (d : List PV → M PV) : Sp := fun vs H Q E => ∃ (T : TR) (ρ : List Addr) (ps : List PV) (st : Store), Tok tb T ∧ RlS ⟨K, mg, T⟩ ρ H st ∧ RlAll ⟨K, mg, T⟩ ρ H ps vs ∧ ps.length = n ∧ Pst ⟨K, mg, T⟩ E ρ H (KV ⟨K, mg, T⟩ Q) (d ps st)
structure FnD (P : Program) (w : World) (K : PySem.W.Frag) (mg : Str → Option Value) (base : Heap) (tb : List (Addr × Str)) (k : Nat) (f : Addr) (fd : FuncData) (ps : List Str) (d : List PV → M PV) : Prop where
  ok : FnOk P w K mg base (CX P w) k f fd ps (spD K mg tb ps.length d)
  ar : ∀ qs st, d qs st ≠ .fail → qs.length = ps.length
section
variable {P : Program} {w : World} {K : PySem.W.Frag} {mg : Str → Option Value} {base : Heap} {x qual : Str} {params : Arguments} {body : List Stmt} {scope : Scope} {f : Addr} {fd : FuncData} {N ps : List Str} {k : Nat} {g : DS} {tb : List (Addr × Str)}
theorem rlE_start {G : DG} {ρ : List Addr} {H : Hp} {qs : List PV} {vs : List V} (r : RlAll G ρ H qs vs) (hn : qs.length = ps.length) : RlE G ρ H (qs.map some ++ List.replicate (N.length - ps.length) none) (L2.start N vs) := by
  have hl := r.length
  refine ⟨by simp [L2.start, hl, ← hn], fun i p h => ?_⟩
  unfold L2.start
  by_cases hi : i < qs.length
  · rw [List.getElem?_append_left (by simpa using hi), List.getElem?_map] at h
    obtain ⟨q, e, e2⟩ := Option.map_eq_some_iff.mp h
    cases e2
    obtain ⟨v, e3, r3⟩ := r.get e
    exact ⟨v, by rw [List.getElem?_append_left (by rw [List.length_map, ← hl]; exact hi), List.getElem?_map, e3]; rfl, r3⟩
  · rw [List.getElem?_append_right (by simpa using hi), List.getElem?_replicate] at h
    split at h <;> cases h
theorem fn_okK {dv : List V} {kw : List (Str × V)} (F : FunD K x qual params body scope dv kw f fd) (S : FnScope N ps scope)
    (hb : ∀ (T : TR) (_ : Tok tb T) (cdv : Value) (A : Around) (outer : List Env) (s : Shared) (H : Hp) (E : XK), Room k (A.deeper (envOfC qual scope s.heap.objs.size f cdv)) → ESs (cxOf (CX P w) P w K mg base N qual scope f cdv A outer s H E) T E body g) :
    FnD P w K mg base tb (k + 1) f fd ps (dFnK ps.length N.length g) :=
  ⟨F.ok S (fun vs H Q E ⟨T, ρ, qs, st, _, _, r, hn, _⟩ => by rw [← r.length, hn]) fun cdv A outer s H vs Q E hr ⟨T, ρ, qs, st, hT, hS, r, hn, h⟩ => by
    refine ⟨_, hb T hT cdv A outer s H E hr, ρ, _, st, rlE_start (ps := ps) r hn, hS, ?_⟩
    unfold dFnK at h
    rw [if_pos hn] at h
    refine h.bind.imp fun r' st' ρ' H' _ _ z σ' e' => ?_
    obtain ⟨fl, a'⟩ := r'
    cases fl with
    | nx => exact z.2.2.ret z.2.1 _ .non
    | bk => exact z.2.2.elim
    | ct => exact z.2.2.elim
    | rt v => exact fun u ru => z.2.2.ret z.2.1 u ru, fun qs st h => by
    unfold dFnK at h
    split at h
    · assumption
    · exact (h rfl).elim⟩
theorem fn_ok {dv : List V} {kw : List (Str × V)} (F : FunD K x qual params body scope dv kw f fd) (S : FnScope N ps scope)
    (hb : ∀ (T : TR) (_ : Tok tb T) (cdv : Value) (A : Around) (outer : List Env) (s : Shared) (H : Hp) (E : XK), Room k (A.deeper (envOfC qual scope s.heap.objs.size f cdv)) → ESs (cxOf (CX P w) P w K mg base N qual scope f cdv A outer s H E) T E body g) :
    FnD P w K mg base tb (k + 1) f fd ps (dFn ps.length N.length g) :=
  ⟨(fn_okK F S hb).ok.imp fun vs H Q E ⟨T, ρ, qs, st, hT, hS, r, hn, h⟩ => ⟨T, ρ, qs, st, hT, hS, r, hn, gc_ok hS h⟩, fun qs st h => (fn_okK F S hb).ar qs st fun e => h (by unfold dFn; rw [e]; rfl)⟩
end

/-! ### the call of a def -/
section
variable {X : Cx} {T : TR} {E : XK} {x : Str} {f : Addr} {fd : FuncData} {ps : List Str} {k : Nat} {tb : List (Addr × Str)} {d : List PV → M PV} {e : Expr} {es : List Expr} {fs : DA} {p pos : Pos}
abbrev Lets (X : Cx) (E : XK) : Prop := Passes (CX X.prog X.w) X E
theorem lets_never : Lets X E0' := fun _ _ _ _ _ _ _ ⟨_, _, _, _, _, _, _, _, _, _, _, _, h⟩ => h.elim
theorem lets_def (tk : Takes X fun cls d _ H => E cls d H) : Lets X E := passes_call tk fun _ _ _ _ h => h
abbrev FnX (X : Cx) (tb : List (Addr × Str)) (k : Nat) (f : Addr) (fd : FuncData) (ps : List Str) (d : List PV → M PV) : Prop := FnD X.prog X.w X.K X.mg X.base tb k f fd ps d
theorem ev_call (F : FnX X tb k f fd ps d) (hr : Room k X.A) (hg : Gl X x) (hm : X.mg x = some (.ref f)) (hk : PySem.W.keepIn X.K (.ref f) = true) (hb : Binds X.K fd ps []) (hT : Tok tb T) (hx : Lets X E) (ha : EA X T E (e :: es) fs) 
    (hdb : (x == ("__debug__" : Str)) = false := by decide) (he : starEach (e :: es) X.env = (false, eval e X.env) :: starEach es X.env := by rfl) (hpl : (backTo pos (starEach es X.env)).any (·.1) = false := by rfl) :
    EV X T E (.Call (.Name x p) (e :: es) [] pos) (dAl d fs) :=
  pe_imp (pe_call F.ok hr hg hm hk hb .nil hx ha hdb he hpl) fun σ H Q q => by
  obtain ⟨ρ, aσ, st, hE, hS, h⟩ := q
  refine ta_bind hE hS h fun ρ1 H1 xs vs st1 _ s1 _ r h => ?_
  rw [List.append_nil]
  exact ⟨T, ρ1, xs, st1, hT, s1, r, F.ar xs st1 fun e => by rw [e] at h; exact h, h⟩
theorem ev_call0 (F : FnX X tb k f fd ps d) (hr : Room k X.A) (hg : Gl X x) (hm : X.mg x = some (.ref f)) (hk : PySem.W.keepIn X.K (.ref f) = true) (hb : Binds X.K fd ps []) (hT : Tok tb T) (hx : Lets X E) (hdb : (x == ("__debug__" : Str)) = false := by decide) :
    EV X T E (.Call (.Name x p) [] [] pos) (dAl d dA0) :=
  pe_imp (pe_call0 F.ok hr hg hm hk hb .nil hx hdb) fun σ H Q q => by
  obtain ⟨ρ, aσ, st, hE, hS, h⟩ := q
  have h : Pst (gOf X T) E ρ H (KV (gOf X T) Q) (d [] st) := h
  exact ⟨T, ρ, [], st, hT, hS, .nil, F.ar [] st fun e => by rw [e] at h; exact h, h⟩
end
end DN
set_option Elab.async false
set_option linter.all false
set_option maxRecDepth 100000
set_option maxHeartbeats 2000000
/-! DnMore: two readings of one expression, tuple.index, assignments side by side, dicts. -/
namespace DN
open PySem PySem.Spec PyProof.Rows L2
section
variable {X : Cx} {T : TR} {E : XK} {G : DG} {ρ : List Addr} {H : Hp} {σ : St} {aσ : AE} {st : Store}
variable {e o a b c : Expr} {f g h fo fa fb fc : DE} {pos : Pos}
theorem pe_or2 {t t' : TE} (h : PE X e t) (h' : PE X e t') : PE X e fun σ H Q => t σ H Q ∨ t' σ H Q := ⟨fun pins s σ H Q I q => q.elim (h.run pins s σ H Q I) (h'.run pins s σ H Q I)⟩
theorem ev_alt (hf : EV X T E e f) (hg : EV X T E e g) (he : ∀ σ st, h σ st = f σ st ∨ h σ st = g σ st) : EV X T E e h := pe_imp (pe_or2 hf hg) fun σ H Q q => by
  obtain ⟨ρ, aσ, st, hE, hS, q⟩ := q
  rcases he aσ st with z | z
  · exact .inl ⟨ρ, aσ, st, hE, hS, by rw [← z]; exact q⟩
  · exact .inr ⟨ρ, aσ, st, hE, hS, by rw [← z]; exact q⟩
theorem dM_alt {c1 c2 : PV → Store → Bool} {d1 d2 : PV → List PV → M PV} {fo : DE} {fs : DA} (σ : AE) (st : Store) :
    dM (fun x st => c1 x st || c2 x st) (fun x xs st => if c1 x st then d1 x xs st else d2 x xs st) fo fs σ st = dM (fun x st => c1 x st || c2 x st) (fun x xs st => if c1 x st then d1 x xs st else d2 x xs st) fo fs σ st := rfl

/-! ### tuple.index -/
/-- the tuple's object is known -/
def isT (p : PV) (_ : Store) : Bool := match p with
  | .tup l => isF l && !isW l
  | _ => false
def mIndexT (x : PV) (xs : List PV) : M PV := fun st => match xs with
  | [y] => (match toD x st, toD y st with
    | some (.tuple ds), some d => if SeqAt.shaped (.tuple ds) = true ∧ SeqAt.shaped d = true then (match idxD d ds with
      | some j => .ok (.int (j : Nat)) st
      | none => .fail) else .fail
    | _, _ => .fail)
  | _ => .fail
/-- the method of a tuple whose object is known -/
def tBMT (r : V → List V → Hp → VK → Prop) (to : TE) (ta : TA) : TE := fun σ H Q => to σ H fun x H1 => (∃ a ob xs, x = .ref a ∧ H1 a = some (.frz ob (.tup xs)) ∧ PlT ob) ∧ ta σ H1 fun vs H2 => r x vs H2 Q
variable {es : List Expr} {name : Str} {apos cpos : Pos} {id : String} {r : V → List V → Hp → VK → Prop} {d : PV → List PV → M PV} {fs : DA}
theorem pe_bmT {to : TE} {t : TA} (slot : Slot "tuple" name id) (hty : typeOf (.builtin id) = pure (.type "method_descriptor")) (hm : MtR X id r) (ho : PE X o to) (ha : PA X (e :: es) t)
    (hbase : attributeBase o name X.env (eval o X.env) = eval o X.env := by rfl)
    (hfew : ((backTo cpos (starEach (e :: es) X.env)).all (fun x => !x.1) && (backToKw cpos (keywordEach [] X.env)).all (fun x => x.1.isSome)
      && decide ((e :: es).length + ([] : List Keyword).length + (if ([] : List Keyword).isEmpty then 0 else 1) < 30)) = true := by rfl)
    (hline : (apos.endLine == cpos.line) = true := by rfl) (hs : starEach (e :: es) X.env = (false, eval e X.env) :: starEach es X.env := by rfl) (hplain : (backTo cpos (starEach es X.env)).any (·.1) = false := by rfl) :
    PE X (.Call (.Attribute o name apos) (e :: es) [] cpos) (tBMT r to t) := by
  refine ⟨fun pins s σ H Q I h => ?_⟩
  refine wpAny_Call_method_late hbase hfew hline rfl (thn (ho.run pins s σ H _ I h) fun v s1 ⟨x, H1, I1, r1, ⟨a, ob, xs, ex, eh, pl⟩, q1⟩ => ?_)
  subst ex
  cases (show v = Value.ref a from r1)
  have hob : s1.heap.get? a = some ob := (show _ ∧ _ from I1.hok a _ eh).1
  refine ⟨"tuple", id, PySem.F.plainAttrs_tuple, slot, hty, ⟨ob, hob, pl.cls⟩, fun b hb => by cases hb; exact ⟨ob, hob, pl.dict⟩, ?_⟩
  have hA := ha.run cpos pins s1 σ H1 _ I1 q1
  rw [hs] at hA ⊢
  refine Calls.callWith_builtin (by show (false || (backTo cpos (starEach es X.env)).any (·.1)) = false; rw [hplain] <;> rfl) (Calls.evalArgs_plain ?_)
  exact thn hA fun us s2 ⟨vs, H2, I2, r2, q2⟩ => hm pins s2 σ H2 _ vs _ us Q I2 r1 r2 q2
def rIndexT (K : PySem.W.Frag) : V → List V → Hp → VK → Prop := fun x xs H Q => ∃ (a : Addr) (y : V) (d : PyData) (ds : List PyData) (j : Nat) (z : PyData), x = V.ref a ∧ xs = [y] ∧ Dp K H (V.ref a) (.tuple ds) ∧ Dp K H y d ∧
  SeqAt.shaped (.tuple ds) = true ∧ SeqAt.shaped d = true ∧ ds[j]? = some z ∧ PyData.eqv z d = true ∧ (∀ (m : Nat) (z' : PyData), m < j → ds[m]? = some z' → PyData.eqv z' d = false) ∧ Q (.int (j : Nat)) H
theorem mt_indexT (hu : X.A.units + 65 < cLine) : MtR X "tuple.index" (rIndexT X.K) := by
  intro pins s σ H x xs v us Q I rx rxs h
  obtain ⟨a, y, d, ds, j, z, rfl, rfl, hl, hy, sl, sd, hz, hzj, hno, q⟩ := h
  cases rx
  cases rxs with
  | cons ry rt =>
    rename_i uy ut
    cases rt
    obtain ⟨bs, r1⟩ := Dp.reads I d y uy hy ry
    have hxs : PyData.canLayAll0 ds = true := SeqAt.canLay_of_shaped sl
    have hroom : X.A.units + 1 + min (PyData.depthAll ds) d.depth < cLine := room_in_shaped sd hu
    cases hl with
    | tup hs ha =>
      obtain ⟨its, rv, ⟨⟨cls, dd, data, sls⟩, ho, hc, n, hdt⟩, hlen⟩ := I.tuple hs
      simp only at hc hdt
      subst hc hdt
      obtain ⟨as, h4⟩ := Dp.readsAll I ds _ its ha rv
      have hn : its.length = ds.length := SeqAt.ReadsAll.length ds its as h4
      have hmap : its.map (SeqAt.readOf s.heap) = ds := SeqAt.readsAll_map ds its as hxs h4
      obtain ⟨hjd, _⟩ := List.getElem?_eq_some_iff.mp hz
      have hjl : j < its.length := by omega
      have hj : j < its.toArray.size := by simpa using hjl
      have at_ : ∀ (m : Nat) (hm : m < its.toArray.size) (z' : PyData), ds[m]? = some z' → SeqAt.readOf s.heap its.toArray[m] = z' := by
        intro m hm z' hz'
        have hml : m < its.length := by simpa using hm
        rw [← hmap, List.getElem?_map, List.getElem?_eq_getElem hml] at hz'
        have e1 : SeqAt.readOf s.heap its[m] = z' := Option.some.inj (show some (SeqAt.readOf s.heap its[m]) = some z' from hz')
        simpa using e1
      refine call_meets PySem.F.slot_tuple_index ⟨_, ho, rfl⟩ PySem.F.entry_tuple_index (PySem.F.args_tuple_index_2 _ _)
        (TI.tuple_indexAt a its.toArray n dd sls uy (fun u => PyData.eqv (SeqAt.readOf s.heap u) d) j hj ?_ ?_) ⟨ho, SeqAt.items_eqAt (vs := its.toArray) (show ReadsAll s.heap its.toArray.toList ds as from h4) r1 hxs (SeqAt.canLay_of_shaped sd) hroom, ?_⟩
      · show PyData.eqv (SeqAt.readOf s.heap its.toArray[j]) d = true
        rw [at_ j hj z hz]
        exact hzj
      · intro m hm hmj
        have hmd : m < ds.length := by omega
        have hz' : ds[m]? = some ds[m] := List.getElem?_eq_getElem hmd
        show PyData.eqv (SeqAt.readOf s.heap its.toArray[m]) d = false
        rw [at_ m hm _ hz']
        exact hno m _ hmj hz'
      · exact ⟨.int (j : Nat), H, I.tok _, ⟨_, rfl⟩, q⟩
theorem ad_indexT : AdqM G E (rIndexT G.K) mIndexT := fun ρ H st x xs v vs Q hS rx rs h => by
  unfold mIndexT at h
  split at h
  · rename_i y
    split at h
    · rename_i ds d e1 e2
      split at h
      · rename_i hs
        split at h
        · rename_i j e3
          obtain ⟨w, rfl, ry⟩ := all1 rs
          obtain ⟨z, h1, h2, h3⟩ := idxD_some e3
          have q := toD_dp hS e1 rx
          cases q with
          | tup q1 q2 => exact ⟨_, w, d, ds, j, z, rfl, rfl, .tup q1 q2, toD_dp hS e2 ry, hs.1, hs.2, h1, h2, h3, post_val h hS (.int _)⟩
        · exact h.elim
      · exact h.elim
    · exact h.elim
  · exact h.elim
theorem ev_indexT (hu : X.A.units + 65 < cLine) (ho : EV X T E o fo) (ha : EV X T E e (f : DE)) (hbase : attributeBase o "index" X.env (eval o X.env) = eval o X.env := by rfl)
    (hfew : ((backTo cpos (starEach [e] X.env)).all (fun x => !x.1) && (backToKw cpos (keywordEach [] X.env)).all (fun x => x.1.isSome)
      && decide ([e].length + ([] : List Keyword).length + (if ([] : List Keyword).isEmpty then 0 else 1) < 30)) = true := by rfl) (hline : (apos.endLine == cpos.line) = true := by rfl) (hs : starEach [e] X.env = (false, eval e X.env) :: starEach [] X.env := by rfl) (hplain : (backTo cpos (starEach [] X.env)).any (·.1) = false := by rfl) :
    EV X T E (.Call (.Attribute o "index" apos) [e] [] cpos) (dM isT mIndexT fo (dAc f dA0)) :=
  pe_imp (pe_bmT PySem.F.slot_tuple_index PySem.F.type_tuple_index (mt_indexT hu) ho (ea_cons ha ea_nil hs) hbase hfew hline hs hplain) fun σ H Q q => by
  obtain ⟨ρ, aσ, st, hE, hS, h⟩ := q
  refine tv_bind hE hS h fun ρ1 H1 x v st1 _ s1 e1 rx h => ?_
  split at h
  · rename_i hc
    refine ⟨?_, ta_bind e1 s1 h fun ρ2 H2 xs vs st2 x2 s2 _ rs h => ad_indexT ρ2 H2 st2 x xs v vs Q s2 (rx.ext x2) rs h⟩
    cases x with
    | tup l =>
      obtain ⟨hf, hw⟩ := Bool.and_eq_true_iff.mp (show (isF l && !isW l) = true from hc)
      cases rx with
      | tup q ra =>
        rcases q with ⟨ob, pl, q⟩ | ⟨q, _⟩
        · rw [hf] at q
          exact ⟨_, ob, _, rfl, q, pl⟩
        · rw [q] at hw; cases hw
    | _ => cases hc
  · exact h.elim

/-! ### a, b = x, y -/
theorem es_par (i j : Nat) {x y : Str} {px py pt : Pos} {kt k2 : Nat} {pt2 : Pos} (hc : X.calm = true) (hN : X.N.Nodup) (ha : EA X T E [a, b] fs) (hi : X.N[i]? = some x := by rfl) (hj : X.N[j]? = some y := by rfl) (hij : i ≠ j := by decide)
    (hx : X.env.scope.names.lookup x = some .local := by rfl) (hy : X.env.scope.names.lookup y = some .local := by rfl)
    (hw : swappedStores [.Tuple [.Name x px, .Name y py] kt pt] (.Tuple [a, b] k2 pt2) X.env = pure (some [x, y]) := by rfl)
    (hs : swapsWithSole [.Tuple [.Name x px, .Name y py] kt pt] (.Tuple [a, b] k2 pt2) pos.line X.env = pure false := by rfl) :
    ES X T E (.Assign [.Tuple [.Name x px, .Name y py] kt pt] (.Tuple [a, b] k2 pt2) pos) (sPar i j fs) := ps_imp (ps_par hc hN hi hj hij hx hy ha hw hs) fun D σ H q => by
  obtain ⟨ρ, aσ, st, hE, hS, h⟩ := q
  refine ta_bind hE hS h fun ρ1 H1 xs vs st1 x1 s1 e1 rs h => ?_
  split at h
  · obtain ⟨v, w, rfl, r1, r2⟩ := all2 rs
    exact ⟨v, w, rfl, h.ret s1 _ ((e1.set r1).set r2)⟩
  · exact h.elim
theorem all3 {p q r : PV} {vs : List V} (h : RlAll G ρ H [p, q, r] vs) : ∃ v w u, vs = [v, w, u] ∧ Rl G ρ H p v ∧ Rl G ρ H q w ∧ Rl G ρ H r u := by
  cases h with
  | cons r1 t =>
    obtain ⟨w, u, rfl, r2, r3⟩ := all2 t
    exact ⟨_, w, u, rfl, r1, r2, r3⟩
theorem es_par3 (i j l : Nat) {x y z : Str} {px py pz pt : Pos} {kt k2 : Nat} {pt2 : Pos} (hc : X.calm = true) (hN : X.N.Nodup) (ha : EA X T E [a, b, c] fs) (hi : X.N[i]? = some x := by rfl) (hj : X.N[j]? = some y := by rfl) (hl : X.N[l]? = some z := by rfl) (hij : i ≠ j := by decide) (hil : i ≠ l := by decide) (hjl : j ≠ l := by decide)
    (hx : X.env.scope.names.lookup x = some .local := by rfl) (hy : X.env.scope.names.lookup y = some .local := by rfl) (hz : X.env.scope.names.lookup z = some .local := by rfl)
    (hw : swappedStores [.Tuple [.Name x px, .Name y py, .Name z pz] kt pt] (.Tuple [a, b, c] k2 pt2) X.env = pure (some [x, y, z]) := by rfl)
    (hs : swapsWithSole [.Tuple [.Name x px, .Name y py, .Name z pz] kt pt] (.Tuple [a, b, c] k2 pt2) pos.line X.env = pure false := by rfl) :
    ES X T E (.Assign [.Tuple [.Name x px, .Name y py, .Name z pz] kt pt] (.Tuple [a, b, c] k2 pt2) pos) (sPar3 i j l fs) := ps_imp (ps_par3 hc hN hi hj hl hij hil hjl hx hy hz ha hw hs) fun D σ H q => by
  obtain ⟨ρ, aσ, st, hE, hS, h⟩ := q
  refine ta_bind hE hS h fun ρ1 H1 xs vs st1 x1 s1 e1 rs h => ?_
  split at h
  · obtain ⟨v, w, u, rfl, r1, r2, r3⟩ := all3 rs
    exact ⟨v, w, u, rfl, h.ret s1 _ (((e1.set r1).set r2).set r3)⟩
  · exact h.elim

/-! ### dicts that are made -/
/-- {}: keys ints and texts -/
def dNewK : DE := fun _ st => .ok (.ref st.length) (st ++ [.dK []])
/-- {}: keys tuples -/
def dNewT : DE := fun _ st => .ok (.ref st.length) (st ++ [.dT []])
theorem ev_dnewK : EV X T E (.Dict [] [] pos) dNewK := pe_imp pe_dnewK fun σ H Q q => by
  obtain ⟨ρ, aσ, st, hE, hS, h⟩ := q
  intro d hd
  exact h (ρ ++ [d]) _ (ext_push hd) (hS.push hd (.dK (es := []) (kvs := []) upd_same rfl .nil)) _ (.ref (by rw [← hS.len]; simp))
theorem ev_dnewT : EV X T E (.Dict [] [] pos) dNewT := pe_imp pe_dnewT fun σ H Q q => by
  obtain ⟨ρ, aσ, st, hE, hS, h⟩ := q
  intro d hd
  exact h (ρ ++ [d]) _ (ext_push hd) (hS.push hd (.dT (es := []) (kvs := []) upd_same rfl .nil)) _ (.ref (by rw [← hS.len]; simp))
end
end DN
set_option Elab.async false
set_option linter.all false
set_option maxRecDepth 100000
set_option maxHeartbeats 2000000
/-! DnDict: displays of dicts. -/
namespace DN
open PySem PySem.Spec PyProof.Rows L2
/-- the pairs of a display -/
def dPairs : List (DE × DE) → AE → M (List (PV × PV))
  | [], _, st => .ok [] st
  | (k, v) :: r, σ, st => (noX (k σ st)).bind fun x st => (noX (v σ st)).bind fun y st => (dPairs r σ st).bind fun ps st => .ok ((x, y) :: ps) st
def kPairs : List (PV × PV) → Option (List (Key × PV))
  | [] => some []
  | (k, v) :: r => (kOf k).bind fun k => (kPairs r).map fun l => (k, v) :: l
def mergeA {κ α : Type} [DecidableEq κ] (es more : List (κ × α)) : List (κ × α) := more.foldl (fun acc kv => putA acc kv.1 kv.2) es
/-- a display of a dict that nobody changes; one that is an object -/
def mDk (ps : List (PV × PV)) : M PV := fun st => match kPairs ps with
  | some es => if es.length ≤ 15 then .ok (.dK ((mergeA [] es).map (·.1)) ((mergeA [] es).map (·.2))) st else .fail
  | none => .fail
def mDkR (ps : List (PV × PV)) : M PV := fun st => match kPairs ps with
  | some es => if es.length ≤ 15 then .ok (.ref st.length) (st ++ [.dK (mergeA [] es)]) else .fail
  | none => .fail
def dDisp (m : List (PV × PV) → M PV) (l : List (DE × DE)) : DE := fun σ st => (dPairs l σ st).bind m
section
variable {X : Cx} {T : TR} {E : XK} {G : DG} {ρ ρ' ρ1 : List Addr} {H H' H1 : Hp} {σ : St} {aσ : AE} {st st' : Store} {D : Addr} {pos : Pos}
inductive RlPs (G : DG) (ρ : List Addr) (H : Hp) : List (PV × PV) → List (V × V) → Prop where
  | nil : RlPs G ρ H [] []
  | cons {p q : PV} {v w : V} {ps : List (PV × PV)} {vs : List (V × V)} : Rl G ρ H p v → Rl G ρ H q w → RlPs G ρ H ps vs → RlPs G ρ H ((p, q) :: ps) ((v, w) :: vs)
theorem kPairs_rl : ∀ {ps : List (PV × PV)} {vs : List (V × V)} {es : List (Key × PV)}, kPairs ps = some es → RlPs G ρ H ps vs → ∃ kvs : List (Key × V), vs = kvs.map (fun kv => (kV kv.1, kv.2)) ∧ es.map (·.1) = kvs.map (·.1) ∧ RlAll G ρ H (es.map (·.2)) (kvs.map (·.2))
  | [], vs, es, h, r => by
    simp only [kPairs, Option.some.injEq] at h
    subst h; cases r; exact ⟨[], rfl, rfl, .nil⟩
  | (k, v) :: ps, vs, es, h, r => by
    simp only [kPairs] at h
    obtain ⟨k', e1, h⟩ := Option.bind_eq_some_iff.mp h
    obtain ⟨es', e2, rfl⟩ := Option.map_eq_some_iff.mp h
    cases r with
    | cons r1 r2 r3 =>
      obtain ⟨kvs, rfl, h1, h2⟩ := kPairs_rl e2 r3
      have e := kOf_v e1 r1
      exact ⟨(k', _) :: kvs, by rw [e]; rfl, by simp [h1], .cons r2 h2⟩
theorem merge_rl {κ : Type} [DecidableEq κ] : ∀ {more : List (κ × PV)} {moreV : List (κ × V)} {es : List (κ × PV)} {kvs : List (κ × V)}, more.map (·.1) = moreV.map (·.1) → RlAll G ρ H (more.map (·.2)) (moreV.map (·.2)) → es.map (·.1) = kvs.map (·.1) → RlAll G ρ H (es.map (·.2)) (kvs.map (·.2)) →
    (mergeA es more).map (·.1) = (moreV.foldl (fun acc kv => putK acc kv.1 kv.2) kvs).map (·.1) ∧ RlAll G ρ H ((mergeA es more).map (·.2)) ((moreV.foldl (fun acc kv => putK acc kv.1 kv.2) kvs).map (·.2))
  | [], [], es, kvs, _, _, h, r => ⟨h, r⟩
  | [], _ :: _, _, _, h, _, _, _ => by cases h
  | _ :: _, [], _, _, h, _, _, _ => by cases h
  | (k, p) :: more, (k', v) :: moreV, es, kvs, h, r, h0, r0 => by
    simp only [List.map_cons, List.cons.injEq] at h
    obtain ⟨rfl, h⟩ := h
    simp only [List.map_cons] at r
    cases r with
    | cons r1 r2 =>
      obtain ⟨a, b⟩ := put_rl k r1 h0 r0
      exact merge_rl (more := more) (moreV := moreV) h r2 a b
theorem pairs_read : ∀ (trs : List (DE × DE)) (ρ : List Addr) (H : Hp) (st : Store) {ps : List (PV × PV)} {st' : Store}, RlE (gOf X (T.add D)) ρ H aσ σ → RlS (gOf X (T.add D)) ρ H st → dPairs trs aσ st = .ok ps st' →
    ∀ K : List (V × V) → Hp → Prop, (∀ ρ' H' vs, Ext (T.add D) ρ H ρ' H' → RlS (gOf X (T.add D)) ρ' H' st' → RlPs (gOf X (T.add D)) ρ' H' ps vs → K vs H') → tPairs (trs.map fun t => (anyV X T t.1, anyV X T t.2)) σ H K
  | [], ρ, H, st, ps, st', hE, hS, h, K, k => by
    unfold dPairs at h
    cases h
    exact k ρ H [] Ext.refl hS .nil
  | (a, b) :: r, ρ, H, st, ps, st', hE, hS, h, K, k => by
    unfold dPairs at h
    cases q1 : a aσ st with
    | ok x st1 =>
      rw [q1] at h
      simp only [noX, Res.bind] at h
      cases q2 : b aσ st1 with
      | ok y st2 =>
        rw [q2] at h
        simp only [noX] at h
        cases q3 : dPairs r aσ st2 with
        | ok ps' st3 =>
          rw [q3] at h
          simp only [Res.ok.injEq] at h
          obtain ⟨rfl, rfl⟩ := h
          refine ⟨D, ρ, aσ, st, hE, hS, ?_⟩
          show Pst _ _ _ _ _ (a aσ st)
          rw [q1]
          intro ρ1 H1 x1 s1 v rv
          refine ⟨D, ρ1, aσ, st1, RlE.ext (G := gOf X (T.add D)) x1 hE, s1, ?_⟩
          show Pst _ _ _ _ _ (b aσ st1)
          rw [q2]
          intro ρ2 H2 x2 s2 w rw'
          refine pairs_read r ρ2 H2 st2 (RlE.ext (G := gOf X (T.add D)) (x1.trans (G := gOf X (T.add D)) x2) hE) s2 q3 _ fun ρ3 H3 vs x3 s3 rs => ?_
          have x23 : Ext (T.add D) ρ1 H1 ρ3 H3 := Ext.trans (G := gOf X (T.add D)) x2 x3
          exact k ρ3 H3 _ (Ext.trans (G := gOf X (T.add D)) x1 x23) s3 (.cons (Rl.ext (G := gOf X (T.add D)) x23 rv) (Rl.ext (G := gOf X (T.add D)) x3 rw') rs)
        | exc _ _ _ => rw [q3] at h; cases h
        | fail => rw [q3] at h; cases h
      | exc _ _ _ => rw [q2] at h; cases h
      | fail => rw [q2] at h; cases h
    | exc _ _ _ => rw [q1] at h; cases h
    | fail => rw [q1] at h; cases h
/-- a dict that was made at D, the state ahead of it -/
theorem dict_fin {kvs kvs' : List (Key × V)} {es : List (Key × PV)} (hD : H D = none) (hDr : D ∉ T.res) (x : Ext (T.add D) ρ (upd H D (.dK [])) ρ' H') (s : RlS (gOf X (T.add D)) ρ' H' st') (hH : H' D = some (.dK kvs)) (hk : es.map (·.1) = kvs'.map (·.1)) (ra : RlAll (gOf X (T.add D)) ρ' H' (es.map (·.2)) (kvs'.map (·.2))) :
    (Ext T ρ H ρ' (upd H' D (.dK kvs')) ∧ RlS (gOf X T) ρ' (upd H' D (.dK kvs')) st' ∧ Rl (gOf X T) ρ' (upd H' D (.dK kvs')) (.dK (es.map (·.1)) (es.map (·.2))) (.ref D)) ∧
    Ext T ρ H (ρ' ++ [D]) (upd H' D (.dK kvs')) ∧ RlS (gOf X T) (ρ' ++ [D]) (upd H' D (.dK kvs')) (st' ++ [.dK es]) := by
  have g : Mv (T.add D) ρ' H' (T.add D) ρ' (upd H' D (.dK kvs')) := mv_grow hH trivial List.mem_cons_self
  have mvI : Mv T ρ H (T.add D) ρ' (upd H' D (.dK kvs')) := ((mv_in hD).trans x.mv).trans g
  have mv : Mv T ρ H T ρ' (upd H' D (.dK kvs')) := mvI.trans mv_out
  have hDp : D ∉ ρ' := (s.res D List.mem_cons_self).2
  have nw : ∀ a ∈ ρ', a ∈ ρ ∨ NT H a := fun a ha => (x.new a ha).imp id fun z => by
    by_cases e : a = D
    · rw [e]; exact .inl hD
    · exact nt_ne e z
  have fr : ∀ a, NT (upd H' D (.dK kvs')) a → NT H a := fun a z => by
    by_cases e : a = D
    · rw [e]; exact .inl hD
    · exact nt_ne e (x.free a (nt_ne e z))
  have rs : ∀ a ∈ T.res, ¬ NT H a → upd H' D (.dK kvs') a = H a := fun a ha hn => by
    have ne : a ≠ D := fun e => hDr (e ▸ ha)
    rw [upd_ne ne, x.rs a (List.mem_cons_of_mem _ ha) (by unfold NT at hn ⊢; rw [upd_ne ne]; exact hn), upd_ne ne]
  have s1 := rls_grow (K := X.K) (mg := X.mg) (T := T.add D) (o := .dK kvs') s hH trivial List.mem_cons_self
  have ra1 : RlAll (gOf X (T.add D)) ρ' (upd H' D (.dK kvs')) (es.map (·.2)) (kvs'.map (·.2)) := RlAll.mv (K := X.K) (mg := X.mg) g ra
  refine ⟨⟨⟨mv.pre, fun a u r o t => (mv.keep a u r o t).1, nw, fr, mv.tups, rs⟩, rls_out s1, .dK (.inl upd_same) ⟨hDp, hDr⟩ hk (RlAll.mv (K := X.K) (mg := X.mg) mv_out ra1)⟩, ?_, ?_⟩
  · exact ⟨mv.pre.trans (List.prefix_append _ _), fun a u r o t => (mv.keep a u r o t).1, fun a ha => by
      rcases List.mem_append.mp ha with ha | ha
      · exact nw a ha
      · rw [List.mem_singleton.mp ha]; exact .inr (.inl hD), fr, mv.tups, rs⟩
  · exact rls_outO s1 (.dK upd_same hk (RlAll.mv (K := X.K) (mg := X.mg) mv_outR ra1)) hDr
theorem dPairs_noexc {x : Str} {w : PV} {s : Store} : ∀ (trs : List (DE × DE)) (st : Store), dPairs trs aσ st ≠ .exc x w s
  | [], st, h => by unfold dPairs at h; cases h
  | (a, b) :: r, st, h => by
    unfold dPairs at h
    cases q1 : a aσ st with
    | ok x st1 =>
      rw [q1] at h
      simp only [noX, Res.bind] at h
      cases q2 : b aσ st1 with
      | ok y st2 =>
        rw [q2] at h
        simp only [noX] at h
        cases q3 : dPairs r aσ st2 with
        | ok _ _ => rw [q3] at h; cases h
        | exc _ _ _ => exact dPairs_noexc r st2 q3
        | fail => rw [q3] at h; cases h
      | exc _ _ _ => rw [q2] at h; cases h
      | fail => rw [q2] at h; cases h
    | exc _ _ _ => rw [q1] at h; cases h
    | fail => rw [q1] at h; cases h
/-- how a display's dict is given -/
def DkEnd (m : List (PV × PV) → M PV) : Prop := m = mDk ∨ m = mDkR
theorem ev_disp {m : List (PV × PV) → M PV} {keys : List (Option Expr)} {values : List Expr} {trs : List (DE × DE)} (hm : DkEnd m)
    (hp : PPs X pos keys values (trs.map fun t => (anyV X T t.1, anyV X T t.2))) (hall : keys.all (·.isSome) = true := by rfl) (hl : keys.length = values.length := by rfl) (h0 : keys ≠ [] := by simp)
    (h15 : keys.length ≤ 15 := by decide) : EV X T E (.Dict keys values pos) (dDisp m trs) := pe_imp (pe_disp hp hall hl h0 h15) fun σ H Q q => by
  obtain ⟨ρ, aσ, st, hE, hS, h⟩ := q
  intro D hD
  have hDr : D ∉ T.res := fun z => (hS.res D z).1 (.inl hD)
  unfold dDisp at h
  cases q : dPairs trs aσ st with
  | ok ps st' =>
    rw [q] at h
    refine pairs_read trs ρ _ st (RlE.mv (K := X.K) (mg := X.mg) (mv_in hD) hE) (rls_in hS hD) q _ fun ρ' H' vs x s rs => ?_
    have hH : H' D = some (.dK []) := by rw [x.rs D List.mem_cons_self (nt_some upd_same), upd_same]
    refine ⟨hH, ?_⟩
    have key : ∀ es, kPairs ps = some es → es.length ≤ 15 → ∃ kvs : List (Key × V), vs = kvs.map (fun kv => (kV kv.1, kv.2)) ∧ kvs.length ≤ 15 ∧ (mergeA [] es).map (·.1) = (mergeK [] kvs).map (·.1) ∧ RlAll (gOf X (T.add D)) ρ' H' ((mergeA [] es).map (·.2)) ((mergeK [] kvs).map (·.2)) := fun es he hz => by
      obtain ⟨kvs, rfl, h1, h2⟩ := kPairs_rl he rs
      have z := congrArg List.length h1
      simp only [List.length_map] at z
      obtain ⟨a, b⟩ := merge_rl (es := []) (kvs := []) h1 h2 rfl .nil
      exact ⟨kvs, rfl, by omega, a, b⟩
    rcases hm with rfl | rfl
    · have h : Pst (gOf X T) E ρ H (KV (gOf X T) Q) (mDk ps st') := h
      unfold mDk at h
      split at h
      · rename_i es he
        split at h
        · rename_i hz
          obtain ⟨kvs, rfl, hz', h1, h2⟩ := key es he hz
          obtain ⟨⟨a, b, c⟩, _⟩ := dict_fin (X := X) (T := T) hD hDr x s hH h1 h2
          exact ⟨kvs, rfl, hz', h ρ' _ a b _ c⟩
        · exact h.elim
      · exact h.elim
    · have h : Pst (gOf X T) E ρ H (KV (gOf X T) Q) (mDkR ps st') := h
      unfold mDkR at h
      split at h
      · rename_i es he
        split at h
        · rename_i hz
          obtain ⟨kvs, rfl, hz', h1, h2⟩ := key es he hz
          obtain ⟨_, a, b⟩ := dict_fin (X := X) (T := T) hD hDr x s hH h1 h2
          exact ⟨kvs, rfl, hz', h _ _ a b _ (.ref (by rw [← s.len]; simp))⟩
        · exact h.elim
      · exact h.elim
  | exc c w st' => exact absurd q (dPairs_noexc trs st)
  | fail => rw [q] at h; exact h.elim
end
end DN
set_option Elab.async false
set_option linter.all false
set_option maxRecDepth 100000
set_option maxHeartbeats 2000000
/-! DnEnd: defs by name. -/
namespace DN
open PySem PySem.Spec PyProof.Rows L2
/-- the module's name x is a def that computes d -/
def Cal (P : Program) (w : World) (K : PySem.W.Frag) (mg : Str → Option Value) (base : Heap) (tb : List (Addr × Str)) (k : Nat) (x : Str) (ps : List Str) (d : List PV → M PV) : Prop :=
  ∃ f fd, FnD P w K mg base tb k f fd ps d ∧ mg x = some (.ref f) ∧ PySem.W.keepIn K (.ref f) = true ∧ Binds K fd ps []
/-- what is never reached -/
def sFail : DS := fun _ _ => .fail
section
variable {X : Cx} {T : TR} {E : XK} {x : Str} {ps : List Str} {k j : Nat} {tb : List (Addr × Str)} {d : List PV → M PV} {e : Expr} {es : List Expr} {fs : DA} {p pos : Pos}
theorem ev_cal (C : Cal X.prog X.w X.K X.mg X.base tb k x ps d) (hr : Room k X.A) (hg : Gl X x) (hT : Tok tb T) (hx : Lets X E) (ha : EA X T E (e :: es) fs)
    (hdb : (x == ("__debug__" : Str)) = false := by decide) (he : starEach (e :: es) X.env = (false, eval e X.env) :: starEach es X.env := by rfl) (hpl : (backTo pos (starEach es X.env)).any (·.1) = false := by rfl) :
    EV X T E (.Call (.Name x p) (e :: es) [] pos) (dAl d fs) := by
  obtain ⟨f, fd, F, hm, hk, hb⟩ := C
  exact ev_call F hr hg hm hk hb hT hx ha hdb he hpl
theorem ev_cal0 (C : Cal X.prog X.w X.K X.mg X.base tb k x ps d) (hr : Room k X.A) (hg : Gl X x) (hT : Tok tb T) (hx : Lets X E) (hdb : (x == ("__debug__" : Str)) = false := by decide) :
    EV X T E (.Call (.Name x p) [] [] pos) (dAl d dA0) := by
  obtain ⟨f, fd, F, hm, hk, hb⟩ := C
  exact ev_call0 F hr hg hm hk hb hT hx hdb
theorem es_fail {s : Stmt} : ES X T E s sFail := ⟨fun _ _ _ _ _ _ ⟨_, _, _, _, _, h⟩ => h.elim⟩
theorem ev_gtupX {x : Str} {q : PV} {pos : Pos} (hg : Gl X x) (h : ∃ a, X.mg x = some (.ref a) ∧ ∀ (T : TR) ρ H, Rl ⟨X.K, X.mg, T⟩ ρ H q (.ref a)) (hd : (x == ("__debug__" : Str)) = false := by decide) : EV X T E (.Name x pos) (dC q) := by
  obtain ⟨a, hm, r⟩ := h
  exact ev_gtup hg hm (r T) hd
theorem hu_room {A : Around} {k : Nat} (hr : Room k A) : A.units + 65 < cLine := by
  have := hr.un
  omega
end
end DN
set_option Elab.async false
set_option linter.all false
set_option maxRecDepth 100000
set_option maxHeartbeats 4000000
/-! DnExc: own exceptions whose common base says super().__init__(what) and keeps it. -/
namespace DN
open PySem PySem.Spec PyProof.Rows L2

/-- what the written part says of the base's __init__ at fI, a def of the class at D -/
structure InitF (P : Program) (K : PySem.W.Frag) (mg : Str → Option Value) (fI D : Addr) (params : Arguments) (body : List Stmt) (scope : Scope) (qual : Str) : Prop where
  fn : ∃ (oc : Value) (od : Option Addr) (doc pm ct : Value) (osl : Array (Option Value)) (cc cda : Addr), K.lookup fI = some ⟨oc, od, .func (PySem.W.fnX "__init__" qual params body scope [("__class__", cc)] .none .none doc pm none (.ref cda) ct), osl⟩ ∧
    PySem.W.codeIn K (.ref cda) qual = true ∧ (∃ ccl cdd vs ccs file tf, K.lookup cda = some ⟨ccl, cdd, .fields vs, ccs⟩ ∧ vs[2]? = some (.str file tf) ∧ ((P.main.file : Str) == file) = true) ∧
    (∃ cl cld csl, K.lookup cc = some ⟨cl, cld, .cell (some (.ref D)), csl⟩)
  cD : ∃ cdD, PySem.W.clsIn K D = some cdD
  tF : PySem.W.typeIn K (.ref fI) = some (.type "function")
  opq : PySem.W.nsIn K cStatics "thirdparty.any" = some none
  sup : mg "super" = none
  top : (P.main.scope.names.lookup ("super" : Str)).isSome = false
/-- .. of a class at C beneath D -/
structure ExcF (K : PySem.W.Frag) (fI D C : Addr) : Prop where
  oex : OexC K C
  sub : PySem.W.mroIn K C (.ref D) = some true
  sup : PySem.W.ks_superIn K C D "__init__" = some (some (.builtin "ValueError.__init__"))
  ve : PySem.W.subIn K (.ref C) (.type "ValueError") = some true
  ini : PySem.W.findIn K (.ref C) "__init__" = some (some (.ref fI))
  noat : PySem.W.findIn K (.ref C) "what" = some none
/-- the promise of __init__ -/
def spIn (K : PySem.W.Frag) (fI D : Addr) : Sp := fun vs H Q _ => ∃ (a C : Addr) (v : V), vs = [.ref a, v] ∧ ExcF K fI D C ∧ H a = some (exo a C none) ∧ ∀ dx, H dx = none → dx ≠ a → Q .non (upd (upd H dx (exd dx [(("what" : Str), v)])) a (exo a C (some dx)))
section
variable {X : Cx} {pins : List (Addr × Obj)} {σ : St} {H : Hp} {s : Shared}
theorem inv_pin (I : Inv X pins σ H s) {u : Addr} {ob : Obj} (h : s.heap.get? u = some ob) (hn : H u = none) (hl : u ≠ X.env.locals) (hf : u ∉ X.fs) (hc : ∀ v, ob.data ≠ .cell v) : Inv X ((u, ob) :: pins) σ H s :=
  ⟨I.ok, I.os, I.bare, I.base, I.loc, I.cell, I.free, I.freeC, fun p hp => by
    rcases List.mem_append.mp hp with hp | hp
    · exact I.pin p (List.mem_append_left _ hp)
    · rcases List.mem_cons.mp hp with rfl | hp
      · exact ⟨h, hn, hl, hf, hc⟩
      · exact I.pin p (List.mem_append_right _ hp), I.hok, I.len⟩
theorem inv_unpin {p : Addr × Obj} (I : Inv X (p :: pins) σ H s) : Inv X pins σ H s :=
  ⟨I.ok, I.os, I.bare, I.base, I.loc, I.cell, I.free, I.freeC, fun q hq => I.pin q (by
    rcases List.mem_append.mp hq with hq | hq
    · exact List.mem_append_left _ hq
    · exact List.mem_append_right _ (List.mem_cons_of_mem _ hq)), I.hok, I.len⟩
/-- the bound __init__ called -/
theorem mw_init {u a C : Addr} {us : List Value} {Q : Value → Shared → Prop} (T : OexC X.K C) (I : Inv X pins σ H s) (hu : s.heap.get? u = some (PySem.W.kxs_mw "ValueError.__init__" a)) (e : H a = some (exo a C none)) (hl : us.length ≤ sizeLine) (h : ∀ s', Inv X pins σ H s' → Q .none s') :
    wpAny (model X.prog X.w) X.A (call (.ref u) us) Q X.xe s := by
  obtain ⟨nm, q, N, bs, bm, sn, sub, ab, col, dd, k0, k1, k2, k3, k5, hC, hbm⟩ := T.cls
  obtain ⟨t1, ho⟩ := exo_at I.hok e
  obtain ⟨hp, g, d, t, os⟩ := s
  refine wpAny_call (codeAny_of_tree ?_)
  show wpAny _ X.A.in1 (callAny (.ref u) ⟨us, []⟩) _ _ _
  simp only [callAny]
  refine wpAny_bind (wpAny_load hu ?_)
  simp only [PySem.W.kxs_mw, show (Value.type "method-wrapper" == Value.type "method" || Value.type "method-wrapper" == Value.type "builtin_function_or_method" || Value.type "method-wrapper" == Value.type "method-wrapper") = true by decide, if_true]
  refine PySem.W.KFB.if_so (by decide) ?_
  refine wpAny_bind (PySem.W.check_bound_init F.excBase_ValueError.toExcCallFacts (I.kIn _ _ hC) ho rfl ?_)
  refine wpAny_bind (wpAny_pure (wpAny_pure ?_))
  refine ⟨plainId_quiet F.excBase_ValueError.init.plain _, codeAny_builtin F.excBase_ValueError.initEntry ?_⟩
  refine PySem.W.exc_init_tree (cls := .ref C) (t0 := t1) (dv := none) (c2 := .none) (c3 := .none) (b4 := .bool false) ho hl fun h' k hx _ => ?_
  have J := I.write (t' := t) (x := a) (e := a) (o := exo a C none) (by rw [e]; exact True.intro) (.inl rfl) k ⟨_, hx⟩ (exo_ok hx)
  have eu : upd H a (exo a C none) = H := by
    funext b
    by_cases hb : b = a
    · rw [hb, upd_same, e]
    · rw [upd_ne hb]
  rw [eu] at J
  exact h _ J
end
theorem look1 {k y : Str} {c d : Addr} (h : List.lookup y [(k, c)] = some d) : y = k ∧ d = c := by
  cases e : (y == k) with
  | true => simp [List.lookup, e] at h; exact ⟨by simpa using e, h.symm⟩
  | false => simp [List.lookup, e] at h
/-! ### the base's __init__ -/
section
open NdefX
variable {P : Program} {w : World} {K : PySem.W.Frag} {mg : Str → Option Value} {base : Heap} {fI D : Addr} {params : Arguments} {body : List Stmt} {scope : Scope} {qual : Str}
theorem init_ok (F : InitF P K mg fI D params body scope qual) (S : NScope ["self", "what", "__class__"] ["self", "what"] ["__class__"] scope) {ar : Arg} (hp : (params.posonlyargs ++ params.args).head? = some ar) (har : ar.arg = ("self" : Str))
    (hb : ∀ (cl : List (Str × Addr)) (doc pm ct cdv : Value) (us : List Value), us.length = 2 → bindArgs (PySem.W.fnX "__init__" qual params body scope cl .none .none doc pm none cdv ct) ⟨us, []⟩ = pure ((["self", "what"] : List Str).zip us))
    (hks : scope.names.lookup ("super" : Str) = some .globalImplicit)
    {p0 p1 p2 p3 p4 p5 p6 p7 p8 p9 : Pos}
    (hcall : ∀ (f L cc cda : Addr), ∃ pl, eval (.Call (.Attribute (.Call (.Name "super" p0) [] [] p1) "__init__" p2) [.Name "what" p3] [] p4) (PySem.W.envX qual scope L f (.ref cda) [("__class__", cc)]) = (do
      let ov ← attributeBase (.Call (.Name "super" p0) [] [] p1) "__init__" (PySem.W.envX qual scope L f (.ref cda) [("__class__", cc)]) (eval (.Call (.Name "super" p0) [] [] p1) (PySem.W.envX qual scope L f (.ref cda) [("__class__", cc)]))
      standAt p2.atName
      let (fx, first) ← holding [ov] (getMethod ov "__init__" pl)
      callWith p4 fx first (backTo p4 (starEach [.Name "what" p3] (PySem.W.envX qual scope L f (.ref cda) [("__class__", cc)]))) []))
    (hsw : ∀ (f L cc cda : Addr), swapsWith (.Call (.Attribute (.Call (.Name "super" p0) [] [] p1) "__init__" p2) [.Name "what" p3] [] p4) none p5.line (PySem.W.envX qual scope L f (.ref cda) [("__class__", cc)]) = pure false)
    (hsw2 : ∀ (f L cc cda : Addr), swapsWith (.Name "what" p8) (some (.Attribute (.Name "self" p6) "what" p7)) p9.line (PySem.W.envX qual scope L f (.ref cda) [("__class__", cc)]) = pure false)
    (hbody : body = [.Expr (.Call (.Attribute (.Call (.Name "super" p0) [] [] p1) "__init__" p2) [.Name "what" p3] [] p4) p5, .Assign [.Attribute (.Name "self" p6) "what" p7] (.Name "what" p8) p9]) :
    ∃ fd, FnOk P w K mg base (CX P w) 1 fI fd ["self", "what"] (spIn K fI D) ∧ Binds K fd ["self", "what"] [] := by
  obtain ⟨oc, od, doc, pm, ct, osl, cc, cda, lk, hcd, ⟨ccl, cdd, vs0, ccs, file, tf, lc, hvs, hfile⟩, cl, cld, csl, lcc⟩ := F.fn
  obtain ⟨cdD, hD⟩ := F.cD
  refine ⟨_, ⟨fun vs H Q E ⟨a, C, v, e, _⟩ => by rw [e]; rfl, fun A outer s H args us vs Q E hr e0 hbd r hsp => ?_⟩, Binds.all fun us hl => hb [("__class__", cc)] doc pm ct (.ref cda) us hl⟩
  obtain ⟨a, C, v, rfl, EF, ea, q⟩ := hsp
  let NFd : NF := ⟨"__init__", qual, params, body, scope, [("__class__", cc)], cda⟩
  have KX : K.In s.heap := e0.mod.kin.keeps fun b o e => (e0.bs b o e).1
  have lim : s.heap.NoLimit := e0.mod.nolimit.keeps fun b o e => (e0.bs b o e).1
  obtain ⟨u1, u2, rfl, r1, r2⟩ : ∃ u1 u2, us = [u1, u2] ∧ RelV (.ref a) u1 ∧ RelV v u2 := by
    cases r with
    | cons h1 t => cases t with
      | cons h2 t => cases t; exact ⟨_, _, rfl, h1, h2⟩
  refine codeAny_call_function hr.depth (KX _ _ lk) rfl S.co S.gen rfl (PySem.W.codeRec_of KX hcd) (hbd _ _ _ _ ?_)
  refine wpAny_newFunctionEnv S.nocell (fun ⟨n, _⟩ hy => S.par n (List.of_mem_zip hy).1) (fun h₁ hns hsb => ⟨lim.fresh _ hsb, ?_⟩) S.kind
  show codeAny _ _ (.func body (envF NFd fI s.heap.objs.size)) _ _
  refine ks_codeAny_funcAt ?_
  have kp : ∀ b o, s.heap.get? b = some o → h₁.get? b = some o := fun b o e => hsb.extBut b o (Nat.ne_of_lt (Heap.lt_size e)) (Heap.get?_push_of_some _ e)
  have Hcc : H cc = none := (e0.bs cc _ (e0.mod.kin _ _ lcc)).2
  have CA : CellsAt NFd.cl ["__class__"] [some (.ref D)] s.heap H := ⟨rfl, fun y c e => by
    obtain ⟨_, rfl⟩ := look1 (show List.lookup y [(("__class__" : Str), cc)] = some c from e)
    exact ⟨Hcc, _, ⟨_, KX _ _ lcc, rfl⟩⟩, fun x y c e1 e2 => by
    obtain ⟨h1, _⟩ := look1 (show List.lookup x [(("__class__" : Str), cc)] = some c from e1)
    obtain ⟨h2, _⟩ := look1 (show List.lookup y [(("__class__" : Str), cc)] = some c from e2)
    rw [h1, h2], fun i y e => by
    cases i with
    | zero => simp at e; subst e; exact ⟨cc, rfl, fun v hv => by cases hv; exact ⟨.ref D, rfl, _, KX _ _ lcc, rfl⟩⟩
    | succ i => simp at e⟩
  have I : Inv (ncx (CX P w) P w K mg base ["self", "what", "__class__"] NFd fI A outer s H E) [] (startF ["self", "what", "__class__"] [.ref a, v] [some (.ref D)]) H { s with heap := h₁, toks := s.toks + ((["self", "what"] : List Str).zip [u1, u2]).length } :=
    inv_startN S hr.hd e0 rfl (.cons r1 (.cons r2 .nil)) CA hns kp
  cases r1
  subst hbody
  have kI : ∀ b o, K.lookup b = some o → h₁.get? b = some o := fun b o e => kp _ _ (KX _ _ e)
  obtain ⟨oD, hD1, hD2⟩ : ∃ oD, h₁.get? D = some oD ∧ oD.data = .cls cdD := by
    unfold PySem.W.clsIn at hD
    split at hD
    · rename_i c d cd' sl ho
      cases hD
      exact ⟨_, kI _ _ ho, rfl⟩
    · cases hD
  obtain ⟨t0, hoa⟩ := exo_at I.hok ea
  have hint : interactive (envF NFd fI s.heap.objs.size) = false := by
    unfold interactive
    simp [S.kind, NFd]
  obtain ⟨pl, hcall⟩ := hcall fI s.heap.objs.size cc cda
  refine ks_wpAt_execs_cons (ks_wpAt_Expr_any (ks_wpAt_MethodCall ?_ hcall) hint (hsw _ _ _ _))
  refine ks_wpAt_super_base (env := envF NFd fI s.heap.objs.size) hks (S.frk _ List.mem_cons_self) (by decide) rfl (kI _ _ lk) rfl hp rfl (kI _ _ lc) rfl hvs hfile F.top ?_
  obtain ⟨mb, hmb1, hmb2⟩ := e0.mod.blt
  have bk : ∀ b o, base.get? b = some o → h₁.get? b = some o := fun b o e => kp b o (e0.bs b o e).1
  refine PySem.W.ks_loadName_global S.kind hks (Calls.loadGlobal_builtin (env := envF NFd fI s.heap.objs.size) (e0.mod.glob.keeps bk) F.sup (hmb1.keeps bk) ((hmb2 _ (by decide)).trans (show bootBuiltins "super" = some (.type "super") by decide +kernel)) ⟨rfl, ?_⟩)
  refine wpAny_loadName_free S.kind (S.frk _ List.mem_cons_self) rfl ⟨_, kI _ _ lcc, rfl⟩ ?_
  rw [har]
  refine wpAny_loadName_local (v := .ref a) S.kind (S.par _ List.mem_cons_self) hns (by rfl) ?_
  refine ks_wpAny_isType_cls hD1 hD2 ⟨rfl, ?_⟩
  refine ks_wpAny_call_super hD1 hD2 hoa rfl (fun c e => nomatch e) (PySem.W.looks_mroIn I.kIn EF.sub) (fun h2 e2 k2 => ?_)
  have I2 := I.kept (t' := s.toks + ((["self", "what"] : List Str).zip [Value.ref a, u2]).length) (h' := h2) k2
  obtain ⟨cdC, hC1, hC2⟩ : ∃ cd, PySem.W.clsIn K C = some cd ∧ PySem.W.alongIn K "__init__" ((cd.mro.dropWhile (· != .ref D)).drop 1) = some (some (.builtin "ValueError.__init__")) := by
    have z := EF.sup
    unfold PySem.W.ks_superIn at z
    exact Option.bind_eq_some_iff.mp z
  obtain ⟨t2, hoa2⟩ := exo_at I2.hok ea
  have hxC : a ≠ C := fun z => by
    subst z
    have z2 : K.In h2 := I2.kIn
    unfold PySem.W.clsIn at hC1
    split at hC1
    · rename_i c d cd' sl ho
      rw [z2 _ _ ho] at hoa2
      cases hoa2
    · cases hC1
  refine PySem.W.kxs_getMethod PySem.W.kxs_ValueError e2 (PySem.W.looks_opaque I2.kIn F.opq) (l₀ := cdC.mro) (fun A Q E s k q => wpAny_bind ((PySem.W.looks_clsIn I2.kIn hC1) A _ E s k (wpAny_pure q))) rfl I2.kIn hC2 ?_ hxC (by decide) ?_
  · have IA : PySem.W.InstAt h2 a ({ cls := .ref C, dict := none, data := .fields #[.ref t2, .none, .none, .none, .bool false, .none] } : Obj) C none := ⟨hoa2, rfl, rfl, trivial⟩
    exact IA.type.andThen (PySem.W.looks_subIn I2.kIn EF.ve)
  have k3 : ∀ b o, h2.get? b = some o → (h2.push (PySem.W.kxs_mw "ValueError.__init__" a)).get? b = some o := fun b o e => Heap.get?_push_of_some _ e
  have I3 := I2.kept (t' := s.toks + ((["self", "what"] : List Str).zip [Value.ref a, u2]).length + 1) (h' := h2.push (PySem.W.kxs_mw "ValueError.__init__" a)) k3
  have hu : (h2.push (PySem.W.kxs_mw "ValueError.__init__" a)).get? h2.objs.size = some (PySem.W.kxs_mw "ValueError.__init__" a) := Heap.get?_push_size _ rfl
  have I4 := inv_pin I3 hu (I2.hok.fresh (Nat.le_refl _)) (Nat.ne_of_gt I2.lt) (I2.nofs (Nat.le_refl _)) (fun v q => nomatch q)
  have he : starEach [.Name "what" p3] (envF NFd fI s.heap.objs.size) = (false, eval (.Name "what" p3) (envF NFd fI s.heap.objs.size)) :: starEach [] (envF NFd fI s.heap.objs.size) := rfl
  let X := ncx (CX P w) P w K mg base ["self", "what", "__class__"] NFd fI A outer s H E
  have pW : ∀ p, PE X (.Name "what" p) (tVar 1) := fun p => pe_var rfl (.inl (S.par _ (List.mem_cons_of_mem _ List.mem_cons_self))) (by decide) (by decide)
  have pS : PE X (.Name "self" p6) (tVar 0) := pe_var rfl (.inl (S.par _ List.mem_cons_self)) (by decide) (by decide)
  have pA : PA X [.Name "what" p3] (L2.tCons (tVar 1) L2.tNil) := pa_cons (pW p3) pa_nil he
  show wpAny _ _ (callWith p4 (.ref h2.objs.size) [] (backTo p4 (starEach [.Name "what" p3] (envF NFd fI s.heap.objs.size))) []) _ _ _
  rw [he]
  refine PySem.W.kxs_callWith (i := "ValueError.__init__") (x := a) rfl (Calls.evalArgs_plain ?_)
  have run := pA.run p4 _ _ (startF ["self", "what", "__class__"] [.ref a, v] [some (.ref D)]) H (fun vs H' => vs = [v] ∧ H' = H) I4 ⟨v, rfl, rfl, rfl⟩
  rw [show starEach [.Name "what" p3] X.env = (false, eval (.Name "what" p3) (envF NFd fI s.heap.objs.size)) :: starEach [] (envF NFd fI s.heap.objs.size) from he] at run
  refine wpAny_mono run (fun us s5 hh => ?_) fun _ _ x => x
  obtain ⟨vs, H5, I5, r5, e5, e6⟩ := hh
  subst e5 e6
  have hu5 : s5.heap.get? h2.objs.size = some (PySem.W.kxs_mw "ValueError.__init__" a) := (I5.pin (h2.objs.size, _) (List.mem_append_right _ List.mem_cons_self)).1
  refine ⟨hu5, ?_⟩
  refine mw_init EF.oex I5 hu5 ea (by show us.length ≤ sizeLine; rw [← r5.length]; show 1 ≤ sizeLine; decide) fun s6 I6 => ?_
  refine ks_wpAt_execs_cons (wpAt_of_wpAny ?_)
  have pO : PS X (.Assign [.Attribute (.Name "self" p6) "what" p7] (.Name "what" p8) p9) (tOst K "what" (tVar 0) (tVar 1)) := ps_ost pS (pW p8) (hsw2 _ _ _ _)
  refine wpAny_mono (pO.run [] s6 _ H5 { nx := fun _ H' => Q .non H', rt := fun _ _ => False } (inv_unpin I6) ⟨v, rfl, .ref a, rfl, a, C, rfl, EF.oex, EF.noat, .inl ⟨ea, q⟩⟩) (fun fl s7 hs => ?_) fun _ _ x => x
  cases fl with
  | next =>
    obtain ⟨σ', H', J, qq⟩ := hs
    refine wpAt_of_wpAny (wpAny_execs_nil ?_)
    exact ⟨.non, H', J.os, J.bare, J.base, J.hok, rfl, qq⟩
  | ret u =>
    obtain ⟨_, _, _, _, _, z⟩ := hs
    exact False.elim z
  | brk =>
    obtain ⟨_, _, _, z⟩ := hs
    exact False.elim z
  | cont =>
    obtain ⟨_, _, _, z⟩ := hs
    exact False.elim z
end
/-! ### raise C(e) -/
def sRaise (c : Str) (f : DE) : DS := fun σ st => (f σ st).bind fun v st => .exc c v st
/-- the module's name x is an own exception class -/
def ExcCal (P : Program) (w : World) (K : PySem.W.Frag) (mg : Str → Option Value) (base : Heap) (x : Str) : Prop :=
  ∃ C fI D fd, mg x = some (.ref C) ∧ ExcF K fI D C ∧ PySem.W.typeIn K (.ref fI) = some (.type "function") ∧ FnOk P w K mg base (CX P w) 1 fI fd ["self", "what"] (spIn K fI D) ∧ Binds K fd ["self", "what"] []
section
variable {X : Cx} {T : TR} {E : XK} {x : Str} {e : Expr} {f : DE} {p pos pos' : Pos} {σ : St} {H : Hp}
theorem ta_one {G : DG} {Q : List V → Hp → Prop} {ρ : List Addr} {aσ : AE} {st : Store} {β : Type} {k : PV → Store → Res β} {K : β → Store → List Addr → Hp → Prop} (hE : RlE G ρ H aσ σ) (hS : RlS G ρ H st) (h : Pst G E ρ H K ((f aσ st).bind k))
    (q : ∀ ρ1 H1 q v st1, Ext G.T ρ H ρ1 H1 → RlS G ρ1 H1 st1 → Rl G ρ1 H1 q v → Pst G E ρ1 H1 K (k q st1) → Q [v] H1) : Ta G E (dAc f dA0) σ H Q := by
  refine ⟨ρ, aσ, st, hE, hS, ?_⟩
  unfold dAc dA0
  cases e : f aσ st with
  | ok y st1 =>
    rw [e] at h
    intro ρ1 H1 x1 s1 vs rs
    obtain ⟨v, rfl, r⟩ := all1 rs
    exact q ρ1 H1 y v st1 x1 s1 r (h.base x1)
  | exc c w st1 => rw [e] at h; exact h
  | fail => rw [e] at h; exact h.elim
theorem es_raise (C : ExcCal X.prog X.w X.K X.mg X.base x) (hr : Room 2 X.A) (hc : X.calm = true) (tk : Takes X fun cls d _ H => E cls d H) (hg : Gl X x) (ha : EV X T E e f)
    (hdb : (x == ("__debug__" : Str)) = false := by decide) (he : starEach [e] X.env = (false, eval e X.env) :: starEach [] X.env := by rfl) (hpl : (backTo pos (starEach [] X.env)).any (·.1) = false := by rfl) :
    ES X T E (.Raise (some (.Call (.Name x p) [e] [] pos)) none pos') (sRaise x f) := by
  obtain ⟨Ca, fI, D, fd, hm, EF, tI, F1, hb⟩ := C
  refine ps_imp (ps_raise hc tk (pmk_oex (k := 1) EF.oex EF.ini tI F1 hr hb .nil lets_never hg hm (ea_cons ha ea_nil he) hdb he hpl)) fun Dd σ H q => ?_
  obtain ⟨ρ, aσ, st, hE, hS, h⟩ := q
  refine ta_one hE hS h fun ρ1 H1 q v st1 x1 s1 r h => ⟨by show 1 ≤ 1000; decide, fun a hna => ?_⟩
  refine ⟨a, Ca, v, rfl, EF, upd_same, fun dx hdx hne => ⟨rfl, dx, [(("what" : Str), v)], upd_same, by rw [upd_ne hne, upd_same], ?_, ?_⟩⟩
  · rwa [upd_ne hne] at hdx
  · have hdx' : H1 dx = none := by rwa [upd_ne hne] at hdx
    have e1 : upd (del (upd (upd (upd H1 a (exo a Ca none)) dx (exd dx [(("what" : Str), v)])) a (exo a Ca (some dx))) a) dx (.xd [(("what" : Str), v)]) = upd H1 dx (Xd v) := by
      funext b
      by_cases hb : b = dx
      · rw [hb, upd_same, upd_same]
      · rw [upd_ne hb, upd_ne hb]
        by_cases hba : b = a
        · rw [hba, del_same, hna]
        · rw [del_ne hba, upd_ne hba, upd_ne hb, upd_ne hba]
    rw [e1]
    exact h ρ1 (upd H1 dx (Xd v)) Ca dx v (ext_new hdx') (s1.new hdx') hm upd_same (s1.out hdx') (r.ext (ext_new hdx'))
end
end DN
set_option Elab.async false
set_option linter.all false
set_option maxRecDepth 100000
set_option maxHeartbeats 4000000
/-! DnGd: a dict of the module (texts to texts) read; a list turned about. -/
namespace DN
open PySem PySem.Spec PyProof.Rows L2
def pGd (x : Str) (tab : List (Str × Str)) (p q : PV) : M PV := fun st => match p, q with
  | .con y, .str z => if y = x then (match tab.lookup z with
    | some v => .ok (.str v) st
    | none => .fail) else .fail
  | _, _ => .fail
/-- what the module's dict x holds -/
def GdF (w : World) (K : PySem.W.Frag) (mg : Str → Option Value) (x : Str) (tab : List (Str × Str)) : Prop := ∃ a, mg x = some (.ref a) ∧ ∀ z v, tab.lookup z = some v → KDct K w a z (.str v)
def dRev (f : DE) : DE := fun σ st => (f σ st).bind fun p st => match asL p st with
  | some l => .ok (.lst l.reverse) st
  | none => .fail
section
variable {X : Cx} {T : TR} {E : XK} {G : DG} {ρ : List Addr} {H : Hp} {σ : St} {aσ : AE} {st : Store} {a b e : Expr} {fb f : DE} {pos : Pos}
theorem ad_gd {w : World} {x : Str} {tab : List (Str × Str)} (F : GdF w G.K G.mg x tab) : Adq2 G E (rIxD G.K w) (pGd x tab) := fun ρ H st u y v z Q hS rx ry h => by
  unfold pGd at h
  split at h
  · split at h
    · rename_i he
      subst he
      split at h
      · rename_i t ht
        obtain ⟨a, hm, hk⟩ := F
        cases ry
        cases rx with
        | con hc =>
          rw [hm] at hc
          cases hc
          exact ⟨a, _, .str t, rfl, rfl, hk _ _ ht, post_val h hS (.str t)⟩
      · exact h.elim
    · exact h.elim
  · exact h.elim
theorem ev_gd {x : Str} {tab : List (Str × Str)} {p : Pos} (hg : Gl X x) (F : GdF X.w X.K X.mg x tab) (hb : EV X T E b fb) (hs : PlainIx b := by exact fun _ _ => rfl) (hd : (x == ("__debug__" : Str)) = false := by decide) : EV X T E (.Subscript (.Name x p) b pos) (d2 (pGd x tab) (dC (.con x)) fb) :=
  pe_imp (pe_ix ix_kdict (ev_glob (T := T) (E := E) hg F.choose_spec.1 hd) hb hs) fun _ _ _ q => tv2 (ad_gd F) q
theorem ra_rev : ∀ {l : List PV} {xs : List V}, RlAll G ρ H l xs → RlAll G ρ H l.reverse xs.reverse
  | [], [], _ => .nil
  | _ :: _, _ :: _, .cons r t => by
    rw [List.reverse_cons, List.reverse_cons]
    exact (ra_rev t).append (.cons r .nil)
theorem ev_rev {k : Nat} {p1 p2 p3 : Pos} (hf : EV X T E e f) : EV X T E (.Subscript e (.Slice none none (some (.UnaryOp .USub (.Constant (.int 1) k p1) p2)) p3) pos) (dRev f) := pe_imp (pe_revL hf) fun σ H Q q => by
  obtain ⟨ρ, aσ, st, hE, hS, h⟩ := q
  refine tv_bind hE hS h fun ρ1 H1 x v st1 e1 s1 _ r h1 => ?_
  split at h1
  · rename_i l el
    obtain ⟨a, xs, rfl, rd, ra⟩ := asL_rl s1 r el
    exact ⟨a, xs, rfl, .inl rd, fun p hn => post_lst h1 s1 (ra_rev ra) hn⟩
  · exact h1.elim
end
end DN
set_option Elab.async false
set_option linter.all false
set_option maxRecDepth 100000
set_option maxHeartbeats 4000000
/-! DnDc: dict comprehensions of one and of two clauses, keys of any kind. -/
namespace L2
open PySem PySem.Spec PyProof.Rows
/-! ### the store of an item -/
theorem dc_put {X : Cx} {pins : List (Addr × Obj)} {σ : St} {H H' : Hp} {s : Shared} {E : Value → Shared → Prop} {D : Addr} {y v : V} {u r : Value} {Q : Unit → Shared → Prop} (hu : X.A.units < cLine) (I : Inv X pins σ H s) (g : DPut H D y v H') (ry : RelV y u) (rv : RelV v r) (h : ∀ s', Inv X pins σ H' s' → Q () s') :
    wpAny (model X.prog X.w) X.A (dictSet D u r) Q E s := by
  rcases g with ⟨kvs, k, e, rfl, l, rfl⟩ | ⟨kvs, k, b, e, rfl, eb, l, rfl⟩
  · exact d_dictSet I e l ry rv h
  · cases (show u = Value.ref b from ry)
    obtain ⟨z, hd, xs, rel, dd⟩ := dt_of I.hok e
    have zx : xs.length ≤ sizeLine := Paired.length rel ▸ z
    have zl : (putK kvs k v).length ≤ sizeLine := Nat.le_trans (length_putK kvs k v) l
    refine wpAny_dictSet_heap (hsz := zx) hu (key_of I.hok eb) dd fun h' dd' sb => h _ ?_
    obtain ⟨o, es, ep, ho, t1, t2, t3, _, t5⟩ := dd'
    exact d_write I (by rw [e]; trivial) sb ⟨o, ho⟩ ⟨zl, hd, _, (rel.put k eb rv).keeps fun c ys ec => by rw [upd_ne (ne_of ec e nofun)]; exact ec, o, es, ep, ho, t1, t2, t3, t5⟩
/-! ### the loop of one clause -/
section
variable {prog : Program} {w : World} {A : Around} {R : Result → Shared → Prop} {s : Shared} {kx vx t0 i0 : Expr} {gs : List Comprehension} {scope : Scope} {pos : Pos} {j : Nat} {ifs0 : List Expr} {it acc : Value} {env : Env} {bs : Sem Unit}
/-- a clause's turn whose inmost part is bs -/
def TurnIs (e t0 i0 : Expr) (j : Nat) (ifs0 : List Expr) (it acc : Value) (env : Env) (bs : Sem Unit) : Prop :=
  compTurn e j it acc env = (do
    standAt i0.pos
    match ← pyNext it with
    | none => pure (.done .next)
    | some v =>
      letOwnedTupleGo t0 it v
      assign t0 env v
      let mut ok := true
      for c in ifs0 do
        if ok then ok ← isTrue c env (eval c env)
      if ok then bs
      again (.compLoop e j it acc env))
theorem clause_any (ht : TurnIs (.DictComp kx vx gs scope pos) t0 i0 j ifs0 it acc env bs) (I : Nat → Shared → Prop)
    (turn : ∀ n s, I n s → wpAny (model prog w) A (pyNext it) (fun r s₁ => match r with
      | none => R (.ok .next) s₁
      | some v => wpAny (model prog w) A (letOwnedTupleGo t0 it v) (fun _ s₂ => wpAny (model prog w) A (assign t0 env v) (fun _ s₃ =>
          wpAny (model prog w) A (forIn ifs0 true fun c r => if r = true then do let ok ← isTrue c env (eval c env); pure (ForInStep.yield ok) else pure (ForInStep.yield r)) (fun ok s₄ =>
            if ok = true then wpAny (model prog w) A bs (fun _ s₅ => ∃ m, m < n ∧ I m s₅) (fun _ _ => False) s₄ else ∃ m, m < n ∧ I m s₄) (fun _ _ => False) s₃) (fun _ _ => False) s₂) (fun _ _ => False) s₁) (fun _ _ => False) s)
    (n : Nat) (h : I n s) : codeAny (model prog w) A (.compLoop (.DictComp kx vx gs scope pos) j it acc env) R s := by
  refine codeAny_loop rfl I (fun n s hI => ?_) n h
  show wpAny _ A ((compTurn (.DictComp kx vx gs scope pos) j it acc env).onRaise fun x => do noteFrame x env; theTreesLotGoes x) _ _ s
  refine wpAny_noted ?_
  rw [ht]
  have none_err : ∀ {E : Value → Shared → Prop} (x : Value) (s : Shared), (fun _ _ => False : Value → Shared → Prop) x s → E x s := fun _ _ z => z.elim
  refine wpAny_bind (wpAny_standAt (wpAny_bind (wpAny_mono (turn n s hI) (fun r s₁ h₁ => ?_) none_err)))
  cases r with
  | none => exact wpAny_pure h₁
  | some v =>
    refine wpAny_bind (wpAny_mono h₁ (fun _ s₂ h₂ => ?_) none_err)
    refine wpAny_bind (wpAny_mono h₂ (fun _ s₃ h₃ => ?_) none_err)
    refine wpAny_bind (wpAny_mono h₃ (fun ok s₄ h₄ => ?_) none_err)
    cases ok with
    | false => exact wpAny_pure ⟨rfl, h₄⟩
    | true => exact wpAny_bind (wpAny_mono h₄ (fun _ s₅ h₅ => wpAny_pure ⟨rfl, h₅⟩) none_err)
/-- the item of a dict comprehension is stored -/
def dcPut (kx vx : Expr) (D : Addr) (env : Env) : Sem Unit := do
  let kv ← eval kx env
  let vv ← holding [kv] (eval vx env)
  standAt { kx.pos with endLine := vx.pos.endLine, endCol := vx.pos.endCol }
  holding [kv, vv] (dictSet D kv vv)
/-- the second clause is gone through -/
def dcIn (kx vx t0 i0 t1 i1 : Expr) (ifs0 ifs1 : List Expr) (scope : Scope) (pos : Pos) (D : Addr) (env : Env) : Sem Unit := do
  let x ← eval i1 env
  standAt i1.pos
  let x ← foldedSetIterable i1 env x
  let _ ← runOwn (.compStart (.DictComp kx vx [⟨t0, i0, ifs0, 0⟩, ⟨t1, i1, ifs1, 0⟩] scope pos) 1 (← holding [x] (pyIter x)) (.ref D) env) env
theorem turn1 (kx vx t0 i0 : Expr) (ifs0 : List Expr) (scope : Scope) (pos : Pos) (it : Value) (D : Addr) (env : Env) :
    TurnIs (.DictComp kx vx [⟨t0, i0, ifs0, 0⟩] scope pos) t0 i0 0 ifs0 it (.ref D) env (dcPut kx vx D env) := by unfold TurnIs; rfl
theorem turn2_0 (kx vx t0 i0 t1 i1 : Expr) (ifs0 ifs1 : List Expr) (scope : Scope) (pos : Pos) (it : Value) (D : Addr) (env : Env) :
    TurnIs (.DictComp kx vx [⟨t0, i0, ifs0, 0⟩, ⟨t1, i1, ifs1, 0⟩] scope pos) t0 i0 0 ifs0 it (.ref D) env (dcIn kx vx t0 i0 t1 i1 ifs0 ifs1 scope pos D env) := by
  unfold TurnIs dcIn
  simp only [bind_assoc, pure_bind]
  rfl
theorem turn2_1 (kx vx t0 i0 t1 i1 : Expr) (ifs0 ifs1 : List Expr) (scope : Scope) (pos : Pos) (it : Value) (D : Addr) (env : Env) :
    TurnIs (.DictComp kx vx [⟨t0, i0, ifs0, 0⟩, ⟨t1, i1, ifs1, 0⟩] scope pos) t1 i1 1 ifs1 it (.ref D) env (dcPut kx vx D env) := by unfold TurnIs; rfl
end
/-! ### the walk of one clause -/
/-- a clause's walk J from H0 on, B its inmost part, End behind it -/
def Walks (J : It) (g : TG) (tt : TT) (B : St → Hp → (Hp → Prop) → Prop) (vs : List Nat) (σ : St) (H0 : Hp) (End : Hp → Prop) : Prop :=
  ∃ W : Nat → Nat → Hp → Prop, (∃ m, W 0 m H0) ∧ ∀ i m H, W i m H → (J.stop i H ∧ End H) ∨ (J.go i H ∧ ∃ Nx : Hp → Prop, (∀ H', Nx H' → ∃ m', m' < m ∧ W (i + 1) m' H') ∧
    ∀ x H', J.yld i H x H' → g x (wipe σ vs) H' fun σ2 H2 => wipe σ2 vs = wipe σ vs ∧ tt σ2 H2 fun b H3 => if b = true then B σ2 H3 Nx else Nx H3)
def tPut (tk tv : TE) (D : Addr) (σ : St) (H : Hp) (Nx : Hp → Prop) : Prop := tk σ H fun y H4 => tv σ H4 fun z H5 => ∃ H6, DPut H5 D y z H6 ∧ Nx H6
def tIn (wi : TI) (g : TG) (tt : TT) (vs : List Nat) (B : St → Hp → (Hp → Prop) → Prop) (σ : St) (H : Hp) (Nx : Hp → Prop) : Prop := wi σ H fun J H4 => Walks J g tt B vs σ H4 Nx
/-- bs does what B asks, slots beside vs as they were -/
def BsOk (Y : Cx) (vs : List Nat) (bs : Sem Unit) (B : St → Hp → (Hp → Prop) → Prop) : Prop := ∀ pins s σ H Nx, Inv Y pins σ H s → B σ H Nx →
  wpAny (model Y.prog Y.w) Y.A bs (fun _ s' => ∃ σ' H', Inv Y pins σ' H' s' ∧ wipe σ' vs = wipe σ vs ∧ Nx H') (fun _ _ => False) s
section
variable {Y : Cx} {pins : List (Addr × Obj)} {s : Shared} {σ : St} {H : Hp} {kx vx tg iter : Expr} {ifs : List Expr} {gs : List Comprehension} {scope : Scope} {pos : Pos} {j : Nat} {g : TG} {tt : TT} {B : St → Hp → (Hp → Prop) → Prop} {vs : List Nat} {bs : Sem Unit} {D : Addr}
theorem noE_mono {α : Type} {t : Sem α} {Q Q' : α → Shared → Prop} {M : Model} {A : Around} {E E' : Value → Shared → Prop} {s : Shared} (hE : E = fun _ _ => False) (h : wpAny M A t Q E s) (hQ : ∀ a s, Q a s → Q' a s) : wpAny M A t Q' E' s := wpAny_mono h hQ fun x s z => by rw [hE] at z; exact z.elim
theorem clause_go {it : Addr} {fp : List Addr} {tn : Nat → Heap → Prop} {J : It} {End : Hp → Prop} {R : Result → Shared → Prop} (hc : Y.calm = true) (hxe : Y.xe = fun _ _ => False) (T : Turn Y.prog Y.w Y.K tg J fp it tn) (pg : PG Y tg g) (pt : PTs Y ifs tt) (pb : BsOk Y vs bs B)
    (ht : TurnIs (.DictComp kx vx gs scope pos) tg iter j ifs (.ref it) (.ref D) Y.env bs) (hst : ∀ {σ' : St} {H' : Hp} {s' : Shared}, Inv Y pins σ' H' s' → (∀ b ∈ fp, H' b = none) → ∀ b ∈ fp, FpOk Y pins H' b)
    (I : Inv Y pins (wipe σ vs) H s) (st : tn 0 s.heap) (nf : ∀ b ∈ fp, H b = none) (w : Walks J g tt B vs σ H End) (hfin : ∀ H' s', Inv Y pins (wipe σ vs) H' s' → End H' → R (.ok .next) s') :
    codeAny (model Y.prog Y.w) Y.A (.compLoop (.DictComp kx vx gs scope pos) j (.ref it) (.ref D) Y.env) R s := by
  obtain ⟨W, ⟨m0, w0⟩, turn⟩ := w
  refine clause_any ht (fun n s' => ∃ i H', Inv Y pins (wipe σ vs) H' s' ∧ tn i s'.heap ∧ (∀ b ∈ fp, H' b = none) ∧ W i n H') ?_ m0 ⟨0, H, I, st, nf, w0⟩
  rintro n s1 ⟨i, H1, I1, st1, n1, w1⟩
  rcases turn i n H1 w1 with ⟨stop, qe⟩ | ⟨go, Nx, hNx, step⟩
  · refine noE_mono rfl (T.done Y rfl rfl rfl hc i pins s1 _ H1 (fun _ _ => False) I1 (hst I1 n1) st1 stop) fun r s2 ⟨hr, I2⟩ => ?_
    subst hr
    exact hfin H1 s2 I2 qe
  · refine noE_mono rfl (T.item Y rfl rfl rfl hc i pins s1 _ H1 (fun _ _ => False) I1 (hst I1 n1) st1 go) fun r s2 ⟨u, hr, h2⟩ => ?_
    subst hr
    refine noE_mono rfl h2 fun _ s3 ⟨x, H3, I3, r3, y3, st3, n3⟩ => ?_
    refine noE_mono hxe (pg.run _ s3 _ H3 x u _ (I3.pinned (hst I3 n3) (T.obj _ _ st3)) r3 (step x H3 y3)) fun _ s4 ⟨σ4, H4, I4, hw4, q4⟩ => ?_
    refine noE_mono hxe (pt.run _ s4 σ4 H4 _ I4 q4) fun b s5 ⟨H5, I5, q5⟩ => ?_
    have back : ∀ {σ' : St} {s' : Shared} {H' : Hp}, Inv Y (pins ++ pinsAt fp s3.heap) σ' H' s' → wipe σ' vs = wipe σ4 vs → Nx H' → ∃ m, m < n ∧ ∃ i H', Inv Y pins (wipe σ vs) H' s' ∧ tn i s'.heap ∧ (∀ b ∈ fp, H' b = none) ∧ W i m H' := fun {σ' s' H'} I' hw nx => by
      obtain ⟨m, hm, w'⟩ := hNx H' nx
      have hw : wipe σ' vs = wipe σ vs := hw.trans hw4
      have hp : ∀ b ∈ fp, ∀ o, s3.heap.get? b = some o → s'.heap.get? b = some o ∧ H' b = none := fun b hb o e =>
        have z := I'.pin (b, o) (List.mem_append_right _ (List.mem_append_right _ (mem_pinsAt hb e)))
        ⟨z.1, z.2.1⟩
      refine ⟨m, hm, i + 1, H', I'.unpinned.weak (by rw [← hw, wipe_length]) (fun j v e => by rw [← hw] at e; exact (wipe_some e).1), T.keep _ _ _ st3 fun b hb o e => (hp b hb o e).1, fun b hb => ?_, w'⟩
      obtain ⟨o, e, _⟩ := T.obj _ _ st3 b hb
      exact (hp b hb o e).2
    cases b with
    | false =>
      rw [if_neg Bool.false_ne_true] at q5 ⊢
      exact back I5 rfl q5
    | true =>
      rw [if_pos rfl] at q5 ⊢
      exact noE_mono rfl (pb _ s5 σ4 H5 Nx I5 q5) fun _ s6 ⟨σ6, H6, I6, hw6, nx⟩ => back I6 hw6 nx
theorem put_ok {tk tv : TE} (hu : Y.A.units < cLine) (hxe : Y.xe = fun _ _ => False) (pk : PE Y kx tk) (pv : PE Y vx tv) : BsOk Y vs (dcPut kx vx D Y.env) (tPut tk tv D) := fun pins s σ H Nx I q => by
  unfold dcPut
  refine wpAny_bind (noE_mono hxe (pk.run _ s σ H _ I q) fun kv s1 ⟨y, H1, I1, ry, q1⟩ => ?_)
  refine wpAny_bind (wpAny_holding (noE_mono hxe (pv.run _ s1 σ H1 _ I1 q1) fun vv s2 ⟨z, H2, I2, rz, H6, g, nx⟩ => ?_))
  exact wpAny_bind (wpAny_standAt (wpAny_holding (dc_put hu I2 g ry rz fun s3 I3 => ⟨σ, H6, I3, rfl, nx⟩)))
theorem start1 {t0 i0 t1 i1 : Expr} {ifs0 ifs1 : List Expr} {env : Env} {prog : Program} {w : World} {A : Around} {R : Result → Shared → Prop} {it acc : Value}
    (h0 : codeAny (model prog w) A (.compLoop (.DictComp kx vx [⟨t0, i0, ifs0, 0⟩, ⟨t1, i1, ifs1, 0⟩] scope pos) 1 it acc env) R s)
    (h : wpAny (model prog w) A (pyIter it) (fun it' s' => codeAny (model prog w) A (.compLoop (.DictComp kx vx [⟨t0, i0, ifs0, 0⟩, ⟨t1, i1, ifs1, 0⟩] scope pos) 1 it' acc env) R s') (notedBy (model prog w) A env fun x s' => R (.error x) s') s) :
    codeAny (model prog w) A (.compStart (.DictComp kx vx [⟨t0, i0, ifs0, 0⟩, ⟨t1, i1, ifs1, 0⟩] scope pos) 1 it acc env) R s := by
  refine codeAny_of_tree ?_
  show wpAny _ _ (Sem.onRaise (compStart (.DictComp kx vx [⟨t0, i0, ifs0, 0⟩, ⟨t1, i1, ifs1, 0⟩] scope pos) 1 it acc env) fun x => do noteFrame x env; standAt theWindowsPlace) _ _ s
  refine wpAny_notedAt ?_
  unfold compStart
  show wpAny _ _ (ask >>= _) _ _ s
  refine wpAny_bind (wpAny_askSetting (wpAny_ite ?_))
  split
  · first
      | exact wpAny_pure ⟨rfl, h0⟩
      | exact wpAny_bind (wpAny_pure (wpAny_pure ⟨rfl, h0⟩))
  · refine wpAny_bind (wpAny_rule ?_)
    show wpAny _ _ (standAt i1.pos >>= _) _ _ s
    exact wpAny_bind (wpAny_standAt (wpAny_bind (wpAny_mono h (fun _ _ z => wpAny_pure ⟨rfl, z⟩) fun _ _ z => z)))
theorem in_ok {t0 i0 t1 i1 : Expr} {ifs0 ifs1 : List Expr} {wi1 : TI} {g1 : TG} {tt1 : TT} {tk tv : TE} {vs1 : List Nat} (hu : Y.A.units < cLine) (hc : Y.calm = true) (hxe : Y.xe = fun _ _ => False) (hv : ∀ i ∈ vs1, i ∈ vs) (hs1 : ∀ env x, foldedSetIterable i1 env x = pure x)
    (pi1 : PI Y t1 i1 wi1) (pg1 : PG Y t1 g1) (pt1 : PTs Y ifs1 tt1) (pk : PE Y kx tk) (pv : PE Y vx tv) : BsOk Y vs (dcIn kx vx t0 i0 t1 i1 ifs0 ifs1 scope pos D Y.env) (tIn wi1 g1 tt1 vs1 (tPut tk tv D)) := fun pins s σ H Nx I q => by
  unfold dcIn
  refine wpAny_bind (noE_mono hxe (pi1.run pins s σ H _ I q) fun x s1 h1 => ?_)
  refine wpAny_bind (wpAny_standAt (wpAny_bind (wpAny_of_eq (hs1 Y.env x) (wpAny_bind (wpAny_holding (noE_mono hxe h1 fun itv s2 h2 => ?_))))))
  obtain ⟨it, fp, tn, J, H2, e, I2, T, st2, f2, wk⟩ := h2
  subst e
  refine wpAny_bind (wpAny_runOwn ?_)
  rw [Around.mark_none]
  have hw : wipe (wipe σ vs1) vs = wipe σ vs := by
    refine List.ext_getElem? fun n => ?_
    have out : ∀ {l : List Nat} {σ : St}, n ∉ l → (wipe σ l)[n]? = σ[n]? := fun h => wipe_out h
    by_cases hn : n ∈ vs
    · have : ∀ (l : List Nat) (σ τ : St), σ.length = τ.length → n ∈ l → (wipe σ l)[n]? = (wipe τ l)[n]? := by
        intro l
        induction l with
        | nil => intro σ τ _ h; cases h
        | cons a l ih =>
          intro σ τ hl h
          unfold wipe
          by_cases ha : a = n
          · subst ha
            by_cases hlt : a < σ.length
            · rw [List.getElem?_set_self (by rw [wipe_length]; exact hlt), List.getElem?_set_self (by rw [wipe_length]; omega)]
            · rw [List.getElem?_eq_none (by rw [List.length_set, wipe_length]; omega), List.getElem?_eq_none (by rw [List.length_set, wipe_length]; omega)]
          · rw [List.getElem?_set_ne ha, List.getElem?_set_ne ha]
            exact ih σ τ hl ((List.mem_cons.mp h).resolve_left fun z => ha z.symm)
      exact this vs _ _ (wipe_length _ _) hn
    · rw [out hn, out hn, out fun h => hn (hv n h)]
  have lp : codeAny (model Y.prog Y.w) Y.A (.compLoop (.DictComp kx vx [⟨t0, i0, ifs0, 0⟩, ⟨t1, i1, ifs1, 0⟩] scope pos) 1 (.ref it) (.ref D) Y.env) (fun r s' => match r with
      | .ok _ => ∃ σ' H', Inv Y pins σ' H' s' ∧ wipe σ' vs = wipe σ vs ∧ Nx H'
      | .error _ => False) s2 :=
    clause_go hc hxe T pg1 pt1 (put_ok hu hxe pk pv) (turn2_1 kx vx t0 i0 t1 i1 ifs0 ifs1 scope pos (.ref it) D Y.env) (fun _ n b hb => ⟨n b hb, (f2 b hb).2⟩) (I2.weak (wipe_length _ _) fun j v e => (wipe_some e).1) st2 (fun b hb => (f2 b hb).1) wk fun H' s' I' nx => ⟨_, H', I', hw, nx⟩
  refine codeAny_mono (start1 lp (T.self Y.A 0 _ _ _ st2 lp)) fun r s' hr => ?_
  cases r with
  | ok f => exact wpAny_pure hr
  | error e => exact hr.elim
end
/-! ### the comprehension -/
section
variable {X : Cx}
def tDcX (o0 : HO) (wi : TI) (g : TG) (tt : TT) (B : Addr → St → Hp → (Hp → Prop) → Prop) (vs : List Nat) : TE := fun σ H Q => wi σ H fun J H1 => ∀ D, H1 D = none → Walks J g tt (B D) vs σ (upd H1 D o0) (Q (.ref D))
/-- an empty dict, of either kind -/
def Dct0 (o : HO) : Prop := o = .dK [] ∨ o = .dT []
theorem Dct0.ok {o : HO} (h : Dct0 o) {P : Program} {w : World} {H : Hp} (hp : Heap) (hb : sysModules < hp.objs.size) : ObjOk P w H (hp.push { cls := .type "dict", data := .dict #[] }) hp.objs.size o := by
  rcases h with rfl | rfl
  · exact dk_empty hp hb
  · exact dt_empty hp hb
theorem dcX_core {pins : List (Addr × Obj)} {s : Shared} {σ : St} {H : Hp} {Q : VK} {use : Option (Value → Sem Unit)} {Qf : Value → Shared → Prop} {pos' : Pos} {kx vx tg iter : Expr} {ifs : List Expr} {gs : List Comprehension} {scope : Scope} {own : List (Str × Nat)} {pos : Pos} {o0 : HO} {wi : TI} {g : TG} {tt : TT} {B : Addr → St → Hp → (Hp → Prop) → Prop} {bs : Addr → Env → Sem Unit} (h0 : Dct0 o0) (hc : X.calm = true) (hN : X.N.Nodup) (hi : PI X tg iter wi) (ok : BlkOk X.N X.env.scope scope own)
    (hg : ∀ (s : Shared) (H : Hp) (C : Addr) (cl : List (Str × Addr)) (fp : List Addr), PG (X.blk s H scope (compEnvC scope cl C X.env) fp) tg g) (ht : ∀ (s : Shared) (H : Hp) (C : Addr) (cl : List (Str × Addr)) (fp : List Addr), PTs (X.blk s H scope (compEnvC scope cl C X.env) fp) ifs tt)
    (hb : ∀ (D : Addr) (s : Shared) (H : Hp) (C : Addr) (cl : List (Str × Addr)) (fp : List Addr), BsOk (X.blk s H scope (compEnvC scope cl C X.env) fp) (own.map (·.2)) (bs D (compEnvC scope cl C X.env)) (B D))
    (htn : ∀ it D env, TurnIs (.DictComp kx vx (⟨tg, iter, ifs, 0⟩ :: gs) scope pos) tg iter 0 ifs it (.ref D) env (bs D env)) (hs : ∀ x, foldedSetIterable iter X.env x = pure x) (I : Inv X pins σ H s) (h : tDcX o0 wi g tt B (own.map (·.2)) σ H Q)
    (hRR : ∀ D C s' m H', Inv X pins σ H' s' → Q (.ref D) H' → s'.heap.Ns C m → FpOk X pins H' C → compPost (model X.prog X.w) X.A X.xe use Qf (.ref D) C (.ok .next) s') :
    wpAny (model X.prog X.w) X.A (comprehension (.DictComp kx vx (⟨tg, iter, ifs, 0⟩ :: gs) scope pos) scope X.env pos' newDict false (eval iter X.env) use) Qf X.xe s := by
  have free : ∀ y ∈ scope.names, y.2 = .free → ∃ c, X.env.cells.lookup y.1 = some c := fun y hy e => (ok.free y hy e).elim (fun k => I.ok.has _ (.inl k)) fun k => I.ok.has _ (.inr k)
  refine wpAny_comprehension_free (use := use) rfl hs (closure_ok free) ok.kind (fun y hy e => by rw [ok.uniq y hy, e]) (thn (hi.run pins s σ H _ I h) fun xv s1 hx => thn hx fun itv s2 ⟨it, fp, tn, J, H2, e, I2, T, st2, f2, q⟩ => ?_)
  subst e
  refine wpAny_newObj_type (newEnv_comp ?_)
  generalize hD : s2.heap.objs.size = D
  have w := q D (I2.hok.fresh (Nat.le_of_eq hD))
  generalize hs3 : ({ s2 with heap := s2.heap.push { cls := .type "dict", data := .dict #[] } } : Shared) = s3
  have h3 : s3.heap = s2.heap.push { cls := .type "dict", data := .dict #[] } := by rw [← hs3]
  have I3 : Inv X pins σ (upd H2 D o0) s3 := by
    rw [← hs3]
    exact I2.laid (t' := s2.toks) (fun b o e => Heap.get?_push_of_some _ e) (Nat.le_of_eq hD) (by rw [← hD]; exact h0.ok s2.heap I2.big)
  have f3 : ∀ b ∈ fp, FpOk X pins (upd H2 D o0) b ∧ b < s3.heap.objs.size := fun b hb => by
    obtain ⟨o, e, _⟩ := T.obj _ _ st2 b hb
    have lt := Heap.lt_size e
    exact ⟨⟨by rw [upd_ne (by rw [← hD]; exact Nat.ne_of_lt lt)]; exact (f2 b hb).1, (f2 b hb).2⟩, by rw [h3, Heap.size_push]; exact Nat.lt_succ_of_lt lt⟩
  have I4 := block_start I3 ok hN f3
  have st3 : tn 0 s3.heap := T.keep _ _ _ st2 fun b _ o e => by rw [h3]; exact Heap.get?_push_of_some _ e
  have nf : ∀ b ∈ fp, (upd H2 D o0) b = none := fun b hb => (f3 b hb).1.1
  have pg := hg s3 (upd H2 D o0) s3.heap.objs.size (cellsFrom (s3.heap.objs.size + 1) scope.names (cloFrom X.env.cells scope.names [])) fp
  have pt := ht s3 (upd H2 D o0) s3.heap.objs.size (cellsFrom (s3.heap.objs.size + 1) scope.names (cloFrom X.env.cells scope.names [])) fp
  have pb := hb D s3 (upd H2 D o0) s3.heap.objs.size (cellsFrom (s3.heap.objs.size + 1) scope.names (cloFrom X.env.cells scope.names [])) fp
  show codeAny _ _ (.compStart (.DictComp kx vx (⟨tg, iter, ifs, 0⟩ :: gs) scope pos) 0 (.ref it) (.ref D) (compEnvC scope (cellsFrom (s3.heap.objs.size + 1) scope.names (cloFrom X.env.cells scope.names [])) s3.heap.objs.size X.env)) (compPost (model X.prog X.w) X.A X.xe use Qf (.ref D) s3.heap.objs.size) { s3 with heap := pushCells (s3.heap.push { cls := .type "dict", data := .dict #[] }) scope.names }
  generalize hce : compEnvC scope (cellsFrom (s3.heap.objs.size + 1) scope.names (cloFrom X.env.cells scope.names [])) s3.heap.objs.size X.env = ce at I4 pg pt pb ⊢
  have cL : ce.locals = s3.heap.objs.size := by subst hce; rfl
  generalize hH3 : upd H2 D o0 = H3 at I3 I4 pg pt pb w nf f3
  generalize hs4 : ({ s3 with heap := pushCells (s3.heap.push { cls := .type "dict", data := .dict #[] }) scope.names } : Shared) = s4 at I4 ⊢
  have st4 : tn 0 s4.heap := T.keep _ _ _ st3 fun b _ o e => by rw [← hs4]; exact pushCells_keeps _ _ _ _ (Heap.get?_push_of_some _ e)
  have lp : codeAny (model X.prog X.w) X.A (.compLoop (.DictComp kx vx (⟨tg, iter, ifs, 0⟩ :: gs) scope pos) 0 (.ref it) (.ref D) ce) (compPost (model X.prog X.w) X.A X.xe use Qf (.ref D) s3.heap.objs.size) s4 :=
    clause_go (Y := X.blk s3 H3 scope ce fp) (pins := []) hc rfl T pg pt pb (htn _ _ _) (fun {σ' H' s'} I' hn b hb =>
      ⟨hn b hb, (I'.ok.exf b hb).1, I'.ok.exfs b hb, .inl hb, fun x c e => (I'.ok.exf b hb).2 x c e, fun p hp => absurd (show p ∈ ([] : List (Addr × Obj)) ++ [] from hp) (by simp)⟩) I4 st4 nf w fun H5 s5 I5 qq => by
      have nC : H5 s3.heap.objs.size = none := by
        have z : H5 ce.locals = none := I5.free
        rw [cL] at z
        exact z
      obtain ⟨m, hn, _⟩ := I5.loc
      have hn : s5.heap.Ns ce.locals m := hn
      rw [cL] at hn
      have I6 : Inv X pins σ H5 s5 := I3.call' (ch := fp) I5.os I5.base I5.hok I5.bare fun b hb =>
        have z := (f3 b hb).1.2
        ⟨z.2.2.1, z.1, z.2.2.2.1, z.2.2.2.2⟩
      exact hRR D _ s5 m H5 I6 qq hn (I3.fpOk (Nat.le_refl _) nC)
  exact codeAny_compStart_dict lp (T.self X.A 0 _ _ _ st4 lp)
theorem pe_dcX {kx vx tg iter : Expr} {ifs : List Expr} {gs : List Comprehension} {scope : Scope} {own : List (Str × Nat)} {pos : Pos} {o0 : HO} {wi : TI} {g : TG} {tt : TT} {B : Addr → St → Hp → (Hp → Prop) → Prop} {bs : Addr → Env → Sem Unit} (h0 : Dct0 o0) (hc : X.calm = true) (hN : X.N.Nodup) (hi : PI X tg iter wi) (ok : BlkOk X.N X.env.scope scope own)
    (hg : ∀ (s : Shared) (H : Hp) (C : Addr) (cl : List (Str × Addr)) (fp : List Addr), PG (X.blk s H scope (compEnvC scope cl C X.env) fp) tg g) (ht : ∀ (s : Shared) (H : Hp) (C : Addr) (cl : List (Str × Addr)) (fp : List Addr), PTs (X.blk s H scope (compEnvC scope cl C X.env) fp) ifs tt)
    (hb : ∀ (D : Addr) (s : Shared) (H : Hp) (C : Addr) (cl : List (Str × Addr)) (fp : List Addr), BsOk (X.blk s H scope (compEnvC scope cl C X.env) fp) (own.map (·.2)) (bs D (compEnvC scope cl C X.env)) (B D))
    (htn : ∀ it D env, TurnIs (.DictComp kx vx (⟨tg, iter, ifs, 0⟩ :: gs) scope pos) tg iter 0 ifs it (.ref D) env (bs D env)) (hs : ∀ x, foldedSetIterable iter X.env x = pure x := by intro _; rfl) :
    PE X (.DictComp kx vx (⟨tg, iter, ifs, 0⟩ :: gs) scope pos) (tDcX o0 wi g tt B (own.map (·.2))) := by
  refine ⟨fun pins s σ H Q I h => ?_⟩
  rw [arm_eval_DictComp]
  refine dcX_core h0 hc hN hi ok hg ht hb htn hs I h fun D C s' m H' I' q hn f => ⟨m, hn, fun h2 sb => ?_⟩
  obtain ⟨f0, f1, f2', f3, f4, f5⟩ := f
  exact ⟨.ref D, H', I'.turned (t' := s'.toks) (fun b o hb e => (sb.2 b hb).trans e) f0 f1 f3 f4 f5, rfl, q⟩
/-- y = {..} on one line -/
theorem ps_setDcX {i : Nat} {y : Str} {py spos : Pos} {kx vx tg iter : Expr} {ifs : List Expr} {gs : List Comprehension} {scope : Scope} {own : List (Str × Nat)} {pos : Pos} {o0 : HO} {wi : TI} {g : TG} {tt : TT} {B : Addr → St → Hp → (Hp → Prop) → Prop} {bs : Addr → Env → Sem Unit} (h0 : Dct0 o0) (hc : X.calm = true) (hN : X.N.Nodup) (hi : PI X tg iter wi) (ok : BlkOk X.N X.env.scope scope own)
    (hg : ∀ (s : Shared) (H : Hp) (C : Addr) (cl : List (Str × Addr)) (fp : List Addr), PG (X.blk s H scope (compEnvC scope cl C X.env) fp) tg g) (ht : ∀ (s : Shared) (H : Hp) (C : Addr) (cl : List (Str × Addr)) (fp : List Addr), PTs (X.blk s H scope (compEnvC scope cl C X.env) fp) ifs tt)
    (hb : ∀ (D : Addr) (s : Shared) (H : Hp) (C : Addr) (cl : List (Str × Addr)) (fp : List Addr), BsOk (X.blk s H scope (compEnvC scope cl C X.env) fp) (own.map (·.2)) (bs D (compEnvC scope cl C X.env)) (B D))
    (htn : ∀ it D env, TurnIs (.DictComp kx vx (⟨tg, iter, ifs, 0⟩ :: gs) scope pos) tg iter 0 ifs it (.ref D) env (bs D env)) (hy : X.N[i]? = some y) (hyl : X.env.scope.names.lookup y = some .local)
    (hsw : swapsWith (.DictComp kx vx (⟨tg, iter, ifs, 0⟩ :: gs) scope pos) (some (.Name y py)) spos.line X.env = pure true) (hs : ∀ x, foldedSetIterable iter X.env x = pure x := by intro _; rfl) :
    PS X (.Assign [.Name y py] (.DictComp kx vx (⟨tg, iter, ifs, 0⟩ :: gs) scope pos) spos) (tAsg (tDcX o0 wi g tt B (own.map (·.2))) (gName i)) := by
  refine ⟨fun pins s σ H D I h => ?_⟩
  rw [exec_Assign_Name_used _ _ _ _ hsw]
  refine wpAny_bind (wpAny_standAt (wpAny_bind ?_))
  show wpAny _ X.A (do let _ ← comprehension (.DictComp kx vx (⟨tg, iter, ifs, 0⟩ :: gs) scope pos) scope X.env (firstIterPos (⟨tg, iter, ifs, 0⟩ :: gs) pos) newDict false (eval iter X.env) (some (assign (.Name y py) X.env))) _ _ s
  have h : tDcX o0 wi g tt B (own.map (·.2)) σ H (fun x H1 => gName i x σ H1 D.nx) := h
  refine wpAny_bind (thn (dcX_core (Qf := fun _ s' => SP X pins D .next s') h0 hc hN hi ok hg ht hb htn hs I h fun L C s' m H' I' q hn f => ?_) fun _ _ z => wpAny_pure (wpAny_pure z))
  show wpAny _ _ (assign (.Name y py) X.env (.ref L)) _ _ _
  refine wpAny_assign_Name (store_ok2 (v := V.ref L) I' hN hy (.inl hyl) rfl (fun s2 I2 ⟨a, sb, ha⟩ => ?_) (.inr hyl))
  have apart : C ≠ a := by
    rcases ha with rfl | z
    · exact f.2.1
    · exact fun e => f.2.2.2.2.1 y a z e.symm
  refine ⟨m, hn.sameBut sb apart, fun h3 sb3 => ⟨_, H', I2.turned (t' := s2.toks) (fun b o hb e => (sb3.2 b hb).trans e) f.1 f.2.1 f.2.2.2.1 f.2.2.2.2.1 f.2.2.2.2.2, q⟩⟩
theorem sw_dc {kx vx : Expr} {gs : List Comprehension} {scope : Scope} {pos py : Pos} {y : Str} {l : Nat} {env : Env} (hk : env.scope.kind = .function) (hy : env.scope.names.lookup y = some .local) (hl : (py.line == pos.line) = true)
    (ha : (scope.names.any fun (n, k) => n == y && (k == .local || k == .cell)) = false) : swapsWith (.DictComp kx vx gs scope pos) (some (.Name y py)) l env = pure true := by
  have k1 : env.kindOf y = some .local := hy
  have k2 : env.blockKind = .function := by unfold Env.blockKind; rw [hk]; rfl
  unfold swapsWith
  simp only [k1, k2, ha, Expr.pos, hl]
  rfl
end
end L2
set_option Elab.async false
set_option linter.all false
set_option maxRecDepth 100000
set_option maxHeartbeats 4000000
/-! DnDc2: dict comprehensions, what they compute. -/
namespace DN
open PySem PySem.Spec PyProof.Rows L2
/-- the items of a clause -/
def dcL (t : DT) (c : DB) (b : AE → M Unit) (okS : Store → Bool) (σ : AE) : List PV → M Unit
  | [], st => if okS st then .ok () st else .fail
  | p :: r, st => if okS st then (noX (t p σ st)).bind fun σ' st => (noX (c σ' st)).bind fun k st =>
      if k then (b σ' st).bind fun _ st => dcL t c b okS σ r st else dcL t c b okS σ r st
    else .fail
def isDc (n : Nat) (st : Store) : Bool := match st[n]? with
  | some (.dK _) => true
  | some (.dT _) => true
  | _ => false
/-- an item is put into the n-th object -/
def dcP (k v : DE) (n : Nat) : AE → M Unit := fun σ st => (noX (k σ st)).bind fun x st => (noX (v σ st)).bind fun y st => if isDc n st = true then noX (pSet (.ref n) x y st) else .fail
/-- a clause within -/
def dcS (s : DI) (t : DT) (c : DB) (w : List Nat) (b : AE → M Unit) : AE → M Unit := fun σ st => (noX (s σ st)).bind fun r st => dcL t c b r.2 (wipeA σ w) r.1 st
def dDc (o : SO) (s : DI) (t : DT) (c : DB) (b : Nat → AE → M Unit) (w : List Nat) : DE := fun σ st => (s σ st).bind fun r st =>
  (dcL t c (b st.length) r.2 (wipeA σ w) r.1 (st ++ [o])).bind fun _ st' => .ok (.ref st.length) st'
section
variable {X : Cx} {T : TR} {E : XK} {ρ : List Addr} {H : Hp} {σ : St} {aσ : AE} {st : Store}
theorem walks_of {β : Type} {J : It} {l : List PV} {ok : Store → Bool} {t : DT} {c : DB} {b : AE → M Unit} {w : List Nat} {f : Unit → Store → Res β} {K : β → Store → List Addr → Hp → Prop} {End : Hp → Prop} {B : St → Hp → (Hp → Prop) → Prop} {ρ0 : List Addr} {H0 : Hp}
    (wk : Wk (gOf X T) ρ0 H0 J l ok) (x0 : Ext T ρ0 H0 ρ H) (e : RlE (gOf X T) ρ H aσ σ) (s : RlS (gOf X T) ρ H st) (h : Pst (gOf X T) E ρ H K ((dcL t c b ok (wipeA aσ w) l st).bind f))
    (hE : ∀ ρ' H' st', Ext T ρ H ρ' H' → RlS (gOf X T) ρ' H' st' → Pst (gOf X T) E ρ' H' K (f () st') → End H')
    (hB : ∀ ρ' H' st' aσ' σ' (f' : Unit → Store → Res β) Nx, Ext T ρ H ρ' H' → RlE (gOf X T) ρ' H' aσ' σ' → RlS (gOf X T) ρ' H' st' → Pst (gOf X T) E ρ' H' K ((b aσ' st').bind f') →
      (∀ ρ2 H2 st2, Ext T ρ' H' ρ2 H2 → RlS (gOf X T) ρ2 H2 st2 → Pst (gOf X T) E ρ2 H2 K (f' () st2) → Nx H2) → B σ' H' Nx) :
    Walks J (Tgw (gOf X T) E0' w t) (Tb (gOf X T) E0' c) B w σ H End := by
  refine ⟨fun i m H' => m = l.length - i ∧ i ≤ l.length ∧ ∃ ρ' st', Ext T ρ H ρ' H' ∧ RlS (gOf X T) ρ' H' st' ∧ Pst (gOf X T) E ρ' H' K ((dcL t c b ok (wipeA aσ w) (l.drop i) st').bind f), ⟨l.length, by simp, Nat.zero_le _, ρ, st, .refl, s, h⟩, ?_⟩
  rintro i m H1 ⟨rfl, hi, ρ1, st1, x1, s1, h⟩
  have e1 := e.ext x1
  by_cases lt : i < l.length
  · rw [drop_some lt] at h
    unfold dcL at h
    split at h
    · rename_i hok
      obtain ⟨g1, g2, g3⟩ := wk T ρ1 H1 st1 (x0.trans x1).mv s1 hok
      refine .inr ⟨g1 i lt, fun H' => ∃ ρ' st', Ext T ρ H ρ' H' ∧ RlS (gOf X T) ρ' H' st' ∧ Pst (gOf X T) E ρ' H' K ((dcL t c b ok (wipeA aσ w) (l.drop (i + 1)) st').bind f), fun H' z => ⟨l.length - (i + 1), by omega, rfl, lt, z⟩, fun v H2 y => ?_⟩
      obtain ⟨x2, s2, r2⟩ := g3 i v H2 l[i] (List.getElem?_eq_getElem lt) y
      rw [bind_bind] at h
      obtain ⟨aσ3, st3, et, h⟩ := pst_noX h
      rw [bind_bind] at h
      obtain ⟨k, st4, ec, h⟩ := pst_noX h
      refine ⟨ρ1, _, st1, l[i], (e1.ext x2).wiped w, s2, r2, ?_⟩
      rw [et]
      intro ρ3 H3 x3 s3 σ3 e3 w3
      refine ⟨w3.trans wipe_wipe, ρ3, aσ3, st3, e3, s3, ?_⟩
      rw [ec]
      intro ρ4 H4 x4 s4
      have x14 := (x2.trans x3).trans x4
      have h := h.base x14
      cases k with
      | false => exact ite_ff ⟨ρ4, st4, x1.trans x14, s4, h⟩
      | true =>
        refine ite_tt ?_
        rw [if_pos rfl, bind_bind] at h
        exact hB ρ4 H4 st4 aσ3 σ3 _ _ (x1.trans x14) (e3.ext x4) s4 h fun ρ5 H5 st5 x5 s5 h5 => ⟨ρ5, st5, (x1.trans x14).trans x5, s5, h5⟩
    · exact h.elim
  · have ei : i = l.length := by omega
    subst ei
    rw [List.drop_length] at h
    unfold dcL at h
    split at h
    · rename_i hok
      exact .inl ⟨(wk T ρ1 H1 st1 (x0.trans x1).mv s1 hok).2.1, hE ρ1 H1 st1 x1 s1 h⟩
    · exact h.elim
/-- b and B go together, ρ's n-th address being D -/
def BOk (X : Cx) (T : TR) (E : XK) (b : AE → M Unit) (B : St → Hp → (Hp → Prop) → Prop) (n : Nat) (D : Addr) : Prop := ∀ {β : Type} (K : β → Store → List Addr → Hp → Prop) ρ H st aσ σ (f : Unit → Store → Res β) Nx, ρ[n]? = some D → RlE (gOf X T) ρ H aσ σ → RlS (gOf X T) ρ H st →
  Pst (gOf X T) E ρ H K ((b aσ st).bind f) → (∀ ρ2 H2 st2, Ext T ρ H ρ2 H2 → RlS (gOf X T) ρ2 H2 st2 → Pst (gOf X T) E ρ2 H2 K (f () st2) → Nx H2) → B σ H Nx
theorem ext_at {ρ' : List Addr} {H' : Hp} {n : Nat} {D : Addr} (x : Ext T ρ H ρ' H') (h : ρ[n]? = some D) : ρ'[n]? = some D := by
  obtain ⟨m, rfl⟩ := x.pre
  rw [List.getElem?_append_left (List.getElem?_eq_some_iff.mp h).1]
  exact h
theorem bput_ok {k v : DE} {n : Nat} {D : Addr} : BOk X T E (dcP k v n) (tPut (Tv (gOf X T) E0' k) (Tv (gOf X T) E0' v) D) n D := fun K ρ H st aσ σ f Nx hn e s h q => by
  unfold dcP at h
  rw [bind_bind] at h
  obtain ⟨p, st1, ek, h⟩ := pst_noX h
  rw [bind_bind] at h
  obtain ⟨u, st2, ev, h⟩ := pst_noX h
  refine ⟨ρ, aσ, st, e, s, ?_⟩
  rw [ek]
  intro ρ1 H1 x1 s1 y ry
  refine ⟨ρ1, aσ, st1, e.ext x1, s1, ?_⟩
  rw [ev]
  intro ρ2 H2 x2 s2 z rz
  have h := h.base (x1.trans x2)
  have hn2 := ext_at (x1.trans x2) hn
  split at h
  · rename_i hd
    obtain ⟨_, st3, es, h⟩ := pst_noX h
    have g := set_rl (G := gOf X T) (E := E) (W := Nx) s2 (.ref hn2) (ry.ext x2) rz (by
      rw [es]
      exact fun ρ3 H3 x3 s3 _ => q ρ3 H3 st3 ((x1.trans x2).trans x3) s3 (h.base x3))
    rcases g with ⟨a, xs, i, j, ea, _, ha, _⟩ | ⟨a, H3, ea, g, nx⟩
    · cases ea
      unfold isDc at hd
      split at hd
      · rename_i es' e2
        cases s2.ref hn2 e2 with
        | dK hh _ _ => rw [hh] at ha; cases ha
      · rename_i es' e2
        cases s2.ref hn2 e2 with
        | dT hh _ _ => rw [hh] at ha; cases ha
      · cases hd
    · cases ea
      exact ⟨H3, g, nx⟩
  · exact h.elim
theorem bin_ok {s1 : DI} {t1 : DT} {c1 : DB} {w1 : List Nat} {b : AE → M Unit} {B : St → Hp → (Hp → Prop) → Prop} {n : Nat} {D : Addr} (hb : BOk X T E b B n D) : BOk X T E (dcS s1 t1 c1 w1 b) (tIn (Ti (gOf X T) E0' s1) (Tgw (gOf X T) E0' w1 t1) (Tb (gOf X T) E0' c1) w1 B) n D := fun K ρ H st aσ σ f Nx hn e s h q => by
  unfold dcS at h
  rw [bind_bind] at h
  obtain ⟨r, st1, er, h⟩ := pst_noX h
  refine ⟨ρ, aσ, st, e, s, ?_⟩
  rw [er]
  intro ρ1 H1 x1 s1 J wk
  refine walks_of (f := f) (K := K) (E := E) wk .refl (e.ext x1) s1 (h.base x1) (fun ρ2 H2 st2 x2 s2 h2 => q ρ2 H2 st2 (x1.trans x2) s2 h2) fun ρ2 H2 st2 aσ2 σ2 f2 Nx2 x2 e2 s2 h2 q2 => ?_
  exact hb K ρ2 H2 st2 aσ2 σ2 f2 Nx2 (ext_at (x1.trans x2) hn) e2 s2 h2 q2
/-- an empty dict in the store and in the heap -/
inductive Emp : SO → HO → Prop where
  | k : Emp (.dK []) (.dK [])
  | t : Emp (.dT []) (.dT [])
theorem Emp.ct {o : SO} {u : HO} (h : Emp o u) : Dct0 u := by
  cases h
  · exact .inl rfl
  · exact .inr rfl
theorem dc_read {o : SO} {u : HO} {src : DI} {t : DT} {c : DB} {b : Nat → AE → M Unit} {B : Addr → St → Hp → (Hp → Prop) → Prop} {w : List Nat} {Q : VK} (ho : Emp o u) (hb : ∀ n D, BOk X T E (b n) (B D) n D) (q : Tv (gOf X T) E (dDc o src t c b w) σ H Q) :
    tDcX u (Ti (gOf X T) E src) (Tgw (gOf X T) E0' w t) (Tb (gOf X T) E0' c) B w σ H Q := by
  obtain ⟨ρ, aσ, st, hE, hS, h⟩ := q
  refine ti_bind hE hS h fun ρ1 H1 r st1 J x1 s1 e1 wk h => ?_
  intro D hD
  have hx : Ext T ρ1 H1 (ρ1 ++ [D]) (upd H1 D u) := by cases ho <;> exact ext_push hD
  have hs : RlS (gOf X T) (ρ1 ++ [D]) (upd H1 D u) (st1 ++ [o]) := by
    cases ho
    · exact s1.push hD (.dK (es := []) (kvs := []) upd_same rfl .nil)
    · exact s1.push hD (.dT (es := []) (kvs := []) upd_same rfl .nil)
  have hn : (ρ1 ++ [D])[st1.length]? = some D := by rw [← s1.len]; simp
  refine walks_of (f := fun _ st' => .ok (.ref st1.length) st') (K := KV (gOf X T) Q) (E := E) wk hx (e1.ext hx) hs (h.base hx) (fun ρ2 H2 st2 x2 s2 h2 => h2.ret s2 _ (.ref (ext_at x2 hn))) fun ρ2 H2 st2 aσ2 σ2 f2 Nx2 x2 e2 s2 h2 q2 => ?_
  exact hb _ _ _ ρ2 H2 st2 aσ2 σ2 f2 Nx2 (ext_at x2 hn) e2 s2 h2 q2
/-! ### the rules -/
variable {kx vx tg iter tg1 iter1 : Expr} {ifs ifs1 : List Expr} {scope : Scope} {own : List (Str × Nat)} {pos : Pos} {src src1 : DI} {t t1 : DT} {c c1 : DB} {k v : DE}
theorem ev_dc1 {o : SO} {u : HO} (ho : Emp o u) (hu : X.A.units < cLine) (hc : X.calm = true) (hN : X.N.Nodup) (hi : EI X T E tg iter src) (ok : BlkOk X.N X.env.scope scope own)
    (hg : ∀ (s : Shared) (H : Hp) (C : Addr) (cl : List (Str × Addr)) (fp : List Addr), EGw (X.blk s H scope (compEnvC scope cl C X.env) fp) T E0' (own.map (·.2)) tg t)
    (ht : ∀ (s : Shared) (H : Hp) (C : Addr) (cl : List (Str × Addr)) (fp : List Addr), testsOk (X.blk s H scope (compEnvC scope cl C X.env) fp) T E0' ifs c)
    (hk : ∀ (s : Shared) (H : Hp) (C : Addr) (cl : List (Str × Addr)) (fp : List Addr), EV (X.blk s H scope (compEnvC scope cl C X.env) fp) T E0' kx k)
    (hv : ∀ (s : Shared) (H : Hp) (C : Addr) (cl : List (Str × Addr)) (fp : List Addr), EV (X.blk s H scope (compEnvC scope cl C X.env) fp) T E0' vx v) (hs : ∀ x, foldedSetIterable iter X.env x = pure x := by intro _; rfl) :
    EV X T E (.DictComp kx vx [⟨tg, iter, ifs, 0⟩] scope pos) (dDc o src t c (dcP k v) (own.map (·.2))) :=
  pe_imp (pe_dcX (g := Tgw (gOf X T) E0' (own.map fun x : Str × Nat => x.2) t) (tt := Tb (gOf X T) E0' c) (B := tPut (Tv (gOf X T) E0' k) (Tv (gOf X T) E0' v)) (bs := dcPut kx vx) ho.ct hc hN hi ok hg ht (fun D s H C cl fp => put_ok (Y := X.blk s H scope (compEnvC scope cl C X.env) fp) hu rfl (hk s H C cl fp) (hv s H C cl fp)) (fun it D env => turn1 kx vx tg iter ifs scope pos it D env) hs)
    fun σ H Q q => dc_read ho (fun n D => bput_ok) q
theorem ev_dc2 {o : SO} {u : HO} {w1 : List Nat} (ho : Emp o u) (hu : X.A.units < cLine) (hc : X.calm = true) (hN : X.N.Nodup) (hi : EI X T E tg iter src) (ok : BlkOk X.N X.env.scope scope own) (hw : ∀ i ∈ w1, i ∈ own.map (·.2))
    (hg : ∀ (s : Shared) (H : Hp) (C : Addr) (cl : List (Str × Addr)) (fp : List Addr), EGw (X.blk s H scope (compEnvC scope cl C X.env) fp) T E0' (own.map (·.2)) tg t)
    (ht : ∀ (s : Shared) (H : Hp) (C : Addr) (cl : List (Str × Addr)) (fp : List Addr), testsOk (X.blk s H scope (compEnvC scope cl C X.env) fp) T E0' ifs c)
    (hi1 : ∀ (s : Shared) (H : Hp) (C : Addr) (cl : List (Str × Addr)) (fp : List Addr), EI (X.blk s H scope (compEnvC scope cl C X.env) fp) T E0' tg1 iter1 src1)
    (hg1 : ∀ (s : Shared) (H : Hp) (C : Addr) (cl : List (Str × Addr)) (fp : List Addr), EGw (X.blk s H scope (compEnvC scope cl C X.env) fp) T E0' w1 tg1 t1)
    (ht1 : ∀ (s : Shared) (H : Hp) (C : Addr) (cl : List (Str × Addr)) (fp : List Addr), testsOk (X.blk s H scope (compEnvC scope cl C X.env) fp) T E0' ifs1 c1)
    (hk : ∀ (s : Shared) (H : Hp) (C : Addr) (cl : List (Str × Addr)) (fp : List Addr), EV (X.blk s H scope (compEnvC scope cl C X.env) fp) T E0' kx k)
    (hv : ∀ (s : Shared) (H : Hp) (C : Addr) (cl : List (Str × Addr)) (fp : List Addr), EV (X.blk s H scope (compEnvC scope cl C X.env) fp) T E0' vx v) (hs : ∀ x, foldedSetIterable iter X.env x = pure x := by intro _; rfl) (hs1 : ∀ env x, foldedSetIterable iter1 env x = pure x := by intro _ _; rfl) :
    EV X T E (.DictComp kx vx [⟨tg, iter, ifs, 0⟩, ⟨tg1, iter1, ifs1, 0⟩] scope pos) (dDc o src t c (fun n => dcS src1 t1 c1 w1 (dcP k v n)) (own.map (·.2))) :=
  pe_imp (pe_dcX (g := Tgw (gOf X T) E0' (own.map fun x : Str × Nat => x.2) t) (tt := Tb (gOf X T) E0' c) (B := fun D => tIn (Ti (gOf X T) E0' src1) (Tgw (gOf X T) E0' w1 t1) (Tb (gOf X T) E0' c1) w1 (tPut (Tv (gOf X T) E0' k) (Tv (gOf X T) E0' v) D)) (bs := fun D env => dcIn kx vx tg iter tg1 iter1 ifs ifs1 scope pos D env) ho.ct hc hN hi ok hg ht
    (fun D s H C cl fp => in_ok (Y := X.blk s H scope (compEnvC scope cl C X.env) fp) hu hc rfl hw hs1 (hi1 s H C cl fp) (hg1 s H C cl fp) (ht1 s H C cl fp) (hk s H C cl fp) (hv s H C cl fp)) (fun it D env => turn2_0 kx vx tg iter tg1 iter1 ifs ifs1 scope pos it D env) hs)
    fun σ H Q q => dc_read ho (fun n D => bin_ok bput_ok) q
theorem es_dc1 {i : Nat} {y : Str} {py spos : Pos} {o : SO} {u : HO} (ho : Emp o u) (hu : X.A.units < cLine) (hc : X.calm = true) (hN : X.N.Nodup) (hi : EI X T E tg iter src) (ok : BlkOk X.N X.env.scope scope own)
    (hg : ∀ (s : Shared) (H : Hp) (C : Addr) (cl : List (Str × Addr)) (fp : List Addr), EGw (X.blk s H scope (compEnvC scope cl C X.env) fp) T E0' (own.map (·.2)) tg t)
    (ht : ∀ (s : Shared) (H : Hp) (C : Addr) (cl : List (Str × Addr)) (fp : List Addr), testsOk (X.blk s H scope (compEnvC scope cl C X.env) fp) T E0' ifs c)
    (hk : ∀ (s : Shared) (H : Hp) (C : Addr) (cl : List (Str × Addr)) (fp : List Addr), EV (X.blk s H scope (compEnvC scope cl C X.env) fp) T E0' kx k)
    (hv : ∀ (s : Shared) (H : Hp) (C : Addr) (cl : List (Str × Addr)) (fp : List Addr), EV (X.blk s H scope (compEnvC scope cl C X.env) fp) T E0' vx v) (hy : X.N[i]? = some y) (hyl : X.env.scope.names.lookup y = some .local)
    (hsw : swapsWith (.DictComp kx vx [⟨tg, iter, ifs, 0⟩] scope pos) (some (.Name y py)) spos.line X.env = pure true) (hs : ∀ x, foldedSetIterable iter X.env x = pure x := by intro _; rfl) :
    ES X T E (.Assign [.Name y py] (.DictComp kx vx [⟨tg, iter, ifs, 0⟩] scope pos) spos) (sAsg (dDc o src t c (dcP k v) (own.map (·.2))) (tName i)) :=
  ps_imp (ps_setDcX (g := Tgw (gOf X T) E0' (own.map fun x : Str × Nat => x.2) t) (tt := Tb (gOf X T) E0' c) (B := tPut (Tv (gOf X T) E0' k) (Tv (gOf X T) E0' v)) (bs := dcPut kx vx) ho.ct hc hN hi ok hg ht (fun D s H C cl fp => put_ok (Y := X.blk s H scope (compEnvC scope cl C X.env) fp) hu rfl (hk s H C cl fp) (hv s H C cl fp)) (fun it D env => turn1 kx vx tg iter ifs scope pos it D env) hy hyl hsw hs)
    fun D σ H q => by
  obtain ⟨ρ, aσ, st, hE, hS, h⟩ := q
  exact dc_read (Q := fun x H1 => D.nx (σ.set i (some x)) H1) ho (fun n D => bput_ok) ⟨ρ, aσ, st, hE, hS, h.bind.imp fun p st1 ρ1 H1 _ _ z v r => z.2.2.ret z.2.1 _ ((hE.ext z.1).set r)⟩
theorem es_dc2 {i : Nat} {y : Str} {py spos : Pos} {o : SO} {u : HO} {w1 : List Nat} (ho : Emp o u) (hu : X.A.units < cLine) (hc : X.calm = true) (hN : X.N.Nodup) (hi : EI X T E tg iter src) (ok : BlkOk X.N X.env.scope scope own) (hw : ∀ i ∈ w1, i ∈ own.map (·.2))
    (hg : ∀ (s : Shared) (H : Hp) (C : Addr) (cl : List (Str × Addr)) (fp : List Addr), EGw (X.blk s H scope (compEnvC scope cl C X.env) fp) T E0' (own.map (·.2)) tg t)
    (ht : ∀ (s : Shared) (H : Hp) (C : Addr) (cl : List (Str × Addr)) (fp : List Addr), testsOk (X.blk s H scope (compEnvC scope cl C X.env) fp) T E0' ifs c)
    (hi1 : ∀ (s : Shared) (H : Hp) (C : Addr) (cl : List (Str × Addr)) (fp : List Addr), EI (X.blk s H scope (compEnvC scope cl C X.env) fp) T E0' tg1 iter1 src1)
    (hg1 : ∀ (s : Shared) (H : Hp) (C : Addr) (cl : List (Str × Addr)) (fp : List Addr), EGw (X.blk s H scope (compEnvC scope cl C X.env) fp) T E0' w1 tg1 t1)
    (ht1 : ∀ (s : Shared) (H : Hp) (C : Addr) (cl : List (Str × Addr)) (fp : List Addr), testsOk (X.blk s H scope (compEnvC scope cl C X.env) fp) T E0' ifs1 c1)
    (hk : ∀ (s : Shared) (H : Hp) (C : Addr) (cl : List (Str × Addr)) (fp : List Addr), EV (X.blk s H scope (compEnvC scope cl C X.env) fp) T E0' kx k)
    (hv : ∀ (s : Shared) (H : Hp) (C : Addr) (cl : List (Str × Addr)) (fp : List Addr), EV (X.blk s H scope (compEnvC scope cl C X.env) fp) T E0' vx v) (hy : X.N[i]? = some y) (hyl : X.env.scope.names.lookup y = some .local)
    (hsw : swapsWith (.DictComp kx vx [⟨tg, iter, ifs, 0⟩, ⟨tg1, iter1, ifs1, 0⟩] scope pos) (some (.Name y py)) spos.line X.env = pure true) (hs : ∀ x, foldedSetIterable iter X.env x = pure x := by intro _; rfl) (hs1 : ∀ env x, foldedSetIterable iter1 env x = pure x := by intro _ _; rfl) :
    ES X T E (.Assign [.Name y py] (.DictComp kx vx [⟨tg, iter, ifs, 0⟩, ⟨tg1, iter1, ifs1, 0⟩] scope pos) spos) (sAsg (dDc o src t c (fun n => dcS src1 t1 c1 w1 (dcP k v n)) (own.map (·.2))) (tName i)) :=
  ps_imp (ps_setDcX (g := Tgw (gOf X T) E0' (own.map fun x : Str × Nat => x.2) t) (tt := Tb (gOf X T) E0' c) (B := fun D => tIn (Ti (gOf X T) E0' src1) (Tgw (gOf X T) E0' w1 t1) (Tb (gOf X T) E0' c1) w1 (tPut (Tv (gOf X T) E0' k) (Tv (gOf X T) E0' v) D)) (bs := fun D env => dcIn kx vx tg iter tg1 iter1 ifs ifs1 scope pos D env) ho.ct hc hN hi ok hg ht
    (fun D s H C cl fp => in_ok (Y := X.blk s H scope (compEnvC scope cl C X.env) fp) hu hc rfl hw hs1 (hi1 s H C cl fp) (hg1 s H C cl fp) (ht1 s H C cl fp) (hk s H C cl fp) (hv s H C cl fp)) (fun it D env => turn2_0 kx vx tg iter tg1 iter1 ifs ifs1 scope pos it D env) hy hyl hsw hs)
    fun D σ H q => by
  obtain ⟨ρ, aσ, st, hE, hS, h⟩ := q
  exact dc_read (Q := fun x H1 => D.nx (σ.set i (some x)) H1) ho (fun n D => bin_ok bput_ok) ⟨ρ, aσ, st, hE, hS, h.bind.imp fun p st1 ρ1 H1 _ _ z v r => z.2.2.ret z.2.1 _ ((hE.ext z.1).set r)⟩
end
end DN
set_option Elab.async false
set_option linter.all false
set_option maxRecDepth 100000
set_option maxHeartbeats 2000000
/-! DnRg: tuple(range(n)), list(range(n)). -/
namespace DN
open PySem PySem.Spec PyProof.Rows L2
def qTupRg (p : PV) : M PV := fun st => match p with
  | .int n => if 0 ≤ n ∧ n ≤ 1000000 then .ok (.tup (rgP 0 n)) st else .fail
  | _ => .fail
def qLstRg (p : PV) : M PV := fun st => match p with
  | .int n => if 0 ≤ n ∧ n ≤ 1000000 then .ok (.lst (rgP 0 n)) st else .fail
  | _ => .fail
def qLstRgR (p : PV) : M PV := fun st => match p with
  | .int n => if 0 ≤ n ∧ n ≤ 1000000 then .ok (.ref st.length) (st ++ [.lst (rgP 0 n)]) else .fail
  | _ => .fail
/-- two lists, joined into a list that is changed later -/
def pAddR (x y : PV) : M PV := fun st => match asL x st, asL y st with
  | some l, some m => if l.length + m.length ≤ SZ then .ok (.ref st.length) (st ++ [.lst (l ++ m)]) else .fail
  | _, _ => .fail
section
variable {X : Cx} {T : TR} {E : XK} {G : DG} {ρ : List Addr} {H : Hp} {σ : St} {aσ : AE} {st : Store} {a : Expr} {f : DE} {p p2 pos pos2 : Pos}
theorem rg_rl {a b : Int} : RlAll G ρ H (rgP a b) (rgV a b) := by
  unfold rgP rgV
  generalize List.range (b - a).toNat = l
  induction l with
  | nil => exact .nil
  | cons i l ih => exact .cons (.int _) ih
theorem rg_ok {n : Int} (h : 0 ≤ n ∧ n ≤ 1000000) : RgOk 0 n := RgOk.of_le (by omega) (by omega) (by omega) h.1
theorem ev_tupRg (hc : X.calm = true) (hg : Gl X "tuple") (hm : X.mg "tuple" = none) (hg2 : Gl X "range") (hm2 : X.mg "range" = none) (ha : EV X T E a f)
    (na : starEach [a] X.env = (false, eval a X.env) :: starEach [] X.env := by rfl) (nb : starEach [.Call (.Name "range" p2) [a] [] pos2] X.env = (false, eval (.Call (.Name "range" p2) [a] [] pos2) X.env) :: starEach [] X.env := by rfl) :
    EV X T E (.Call (.Name "tuple" p) [.Call (.Name "range" p2) [a] [] pos2] [] pos) (d1 qTupRg f) := pe_imp (pe_tupRg hc hg hm (prg_1 hg2 hm2 ha na) nb) fun σ H Q q => by
  obtain ⟨ρ, aσ, st, hE, hS, h⟩ := q
  refine tv_bind hE hS h fun ρ1 H1 x v st1 x1 s1 e1 rx h => ?_
  unfold qTupRg at h
  split at h
  · split at h
    · rename_i hz
      cases rx
      refine ⟨_, rfl, rg_ok hz, fun q hq => ?_⟩
      have e : ∀ n : Int, isF (rgP 0 n) = false := fun n => by
        unfold rgP
        cases (List.range (n - 0).toNat) <;> rfl
      exact h ρ1 _ (ext_new hq) (s1.new hq) _ (.tup (.inl ⟨{ cls := .type "tuple", data := .seq #[] 0 }, plT_new _ _, by rw [e]; exact upd_same⟩) rg_rl)
    · exact h.elim
  · exact h.elim
theorem ev_lstRg (hc : X.calm = true) (hg : Gl X "list") (hm : X.mg "list" = none) (hg2 : Gl X "range") (hm2 : X.mg "range" = none) (ha : EV X T E a f)
    (na : starEach [a] X.env = (false, eval a X.env) :: starEach [] X.env := by rfl) (nb : starEach [.Call (.Name "range" p2) [a] [] pos2] X.env = (false, eval (.Call (.Name "range" p2) [a] [] pos2) X.env) :: starEach [] X.env := by rfl) :
    EV X T E (.Call (.Name "list" p) [.Call (.Name "range" p2) [a] [] pos2] [] pos) (d1 qLstRg f) := pe_imp (pe_listRg hc hg hm (prg_1 hg2 hm2 ha na) nb) fun σ H Q q => by
  obtain ⟨ρ, aσ, st, hE, hS, h⟩ := q
  refine tv_bind hE hS h fun ρ1 H1 x v st1 x1 s1 e1 rx h => ?_
  unfold qLstRg at h
  split at h
  · split at h
    · rename_i hz
      cases rx
      exact ⟨_, rfl, rg_ok hz, fun q hq => post_lst h s1 rg_rl hq⟩
    · exact h.elim
  · exact h.elim
theorem ev_lstRgR (hc : X.calm = true) (hg : Gl X "list") (hm : X.mg "list" = none) (hg2 : Gl X "range") (hm2 : X.mg "range" = none) (ha : EV X T E a f)
    (na : starEach [a] X.env = (false, eval a X.env) :: starEach [] X.env := by rfl) (nb : starEach [.Call (.Name "range" p2) [a] [] pos2] X.env = (false, eval (.Call (.Name "range" p2) [a] [] pos2) X.env) :: starEach [] X.env := by rfl) :
    EV X T E (.Call (.Name "list" p) [.Call (.Name "range" p2) [a] [] pos2] [] pos) (d1 qLstRgR f) := pe_imp (pe_listRg hc hg hm (prg_1 hg2 hm2 ha na) nb) fun σ H Q q => by
  obtain ⟨ρ, aσ, st, hE, hS, h⟩ := q
  refine tv_bind hE hS h fun ρ1 H1 x v st1 x1 s1 e1 rx h => ?_
  unfold qLstRgR at h
  split at h
  · split at h
    · rename_i hz
      cases rx
      exact ⟨_, rfl, rg_ok hz, fun q hq => post_lstR h s1 rg_rl hq⟩
    · exact h.elim
  · exact h.elim
theorem ad_addR : Adq2 G E (rAddAll G.K) pAddR := fun ρ H st x y v u Q hS rx ry h => by
  unfold pAddR at h
  split at h
  · rename_i l m e1 e2
    split at h
    · rename_i hz
      obtain ⟨a, xs, rfl, h1, r1⟩ := asL_rl hS rx e1
      obtain ⟨b, ys, rfl, h2, r2⟩ := asL_rl hS ry e2
      exact .inr ⟨_, _, _, _, rfl, rfl, h1, h2, by rw [SZ_eq, ← r1.length, ← r2.length]; exact hz, fun q hq => post_lstR h hS (r1.append r2) hq⟩
    · exact h.elim
  · exact h.elim
theorem ev_addR {b : Expr} {fa fb : DE} (ha : EV X T E a fa) (hb : EV X T E b fb) : EV X T E (.BinOp a .Add b pos) (d2 pAddR fa fb) := ev_op op_addAll ad_addR ha hb
end
end DN
set_option Elab.async false
set_option linter.all false
set_option maxRecDepth 100000
set_option maxHeartbeats 4000000
/-! LibD: what the defs that many laws have compute. Printed by gen.py. -/
namespace Lib
open PySem PySem.Spec PyProof.Rows L2 DN
noncomputable def _law_pool : List PV → M PV := dFnK 2 5
  (sSeq (sAsg (dC (.int 0)) (tName 2))
  (sSeq (sIf (bVal (d2 pLt (dVar 1) (dAl qLen (dAc (dVar 0) dA0)))) (sAsg (d2 pIx (dVar 0) (dVar 1)) (tName 2)) (sIf (bVal (d2 pNe (dVar 0) (dAl mLst dA0))) (sAsg (d2 pIx (dVar 0) (dC (.int 0))) (tName 2)) sNext))
  (sSeq (sAsg (dAl qMax (dAc (dAl qInt (dAc (dVar 2) dA0)) (dAc (dAl qInt (dAc (d2 pSub (d1 pNeg (dC (.int 1))) (dVar 2)) dA0)) dA0))) (tName 3))
  (sSeq (sAsg (d2 pMod (dAl qInt (dAc (d2 pMul (d2 pAdd (d2 pAdd (d2 pAdd (d2 pMod (dAl qInt (dAc (dVar 3) dA0)) (dC (.int 2147483629))) (d2 pMul (d2 pMul (dC (.int 7919)) (dVar 1)) (dVar 1))) (d2 pMul (dC (.int 31)) (dVar 1))) (dC (.int 17))) (dC (.int 48271))) dA0)) (dC (.int 2147483647))) (tName 4))
  (sRet (dAl mLstR (dAc (d2 pMul (dVar 3) (dAl qInt (dAc (dAnd (d2 pGe (dVar 3) (d2 pPow (dC (.int 10)) (dC (.int 18)))) (d2 pLt (dVar 1) (dAl qLen (dAc (dVar 0) dA0)))) dA0))) (dAc (dVar 4) dA0))))))))
noncomputable def _law_take : List PV → M PV := dFn 2 3
  (sSeq (sIf (bVal (d2 pGt (d2 pIx (dVar 0) (dC (.int 0))) (dC (.int 0)))) (sSeq (sAsg (d2 pMod (dAl qInt (dAc (d2 pIx (dVar 0) (dC (.int 0))) dA0)) (dVar 1)) (tName 2))
  (sSeq (sAsg (d2 pDiv (d2 pIx (dVar 0) (dC (.int 0))) (dVar 1)) (tSub (dVar 0) (dC (.int 0))))
  (sRet (dVar 2)))) sNext)
  (sSeq (sAsg (d2 pMod (dAl qInt (dAc (d2 pAdd (d2 pMul (d2 pIx (dVar 0) (dC (.int 1))) (dC (.int 39373))) (dC (.int 7))) dA0)) (dC (.int 2147483647))) (tSub (dVar 0) (dC (.int 1))))
  (sRet (d2 pMod (dAl qInt (dAc (d2 pDiv (d2 pMod (dAl qInt (dAc (d2 pMul (d2 pIx (dVar 0) (dC (.int 1))) (d2 pIx (dVar 0) (dC (.int 1)))) dA0)) (dC (.int 2147483629))) (dC (.int 32))) dA0)) (dVar 1)))))
noncomputable def _law_one : List PV → M PV := dFn 2 2
  (sRet (d2 pIx (dVar 1) (dAl _law_take (dAc (dVar 0) (dAc (dAl qLen (dAc (dVar 1) dA0)) dA0)))))
noncomputable def _law_rooms : List PV → M PV := dFn 2 3
  (sRet (dAl qTup (dAc (dCompL (iRg1 (dVar 1)) (tName 2) bYes (dAl _law_one (dAc (dVar 0) (dAc (dAl mLst (dAc (dC (.int 1)) (dAc (dC (.int 1)) (dAc (dC (.int 2)) (dAc (dC (.int 1)) (dAc (dC (.int 0)) (dAc (dC (.int 2)) (dAc (dC (.int 3)) (dAc (dC (.int 4)) dA0))))))))) dA0))) [2] mLst) dA0)))
noncomputable def _law_two : List PV → M PV := dFn 2 3
  (sSeq (sAsg (dAl _law_take (dAc (dVar 0) (dAc (dAl qLen (dAc (dVar 1) dA0)) dA0))) (tName 2))
  (sRet (dAl mTup (dAc (dVar 2) (dAc (d2 pMod (dAl qInt (dAc (d2 pAdd (d2 pAdd (dVar 2) (dC (.int 1))) (dAl _law_take (dAc (dVar 0) (dAc (d2 pSub (dAl qLen (dAc (dVar 1) dA0)) (dC (.int 1))) dA0)))) dA0)) (dAl qLen (dAc (dVar 1) dA0))) dA0)))))
noncomputable def _law_every : List PV → M PV := dFn 3 7
  (sSeq (sPar 3 4 (dAc (dCompL (iRg1 (d2 pIx (dVar 0) (dVar 2))) (tName 5) bYes (dAl mTup (dAc (dC (.str ("in" : Str))) (dAc (dVar 5) dA0))) [5] mLst) (dAc (dCompL (iRg1 (d2 pIx (dVar 0) (dVar 1))) (tName 6) bYes (dAl mTup (dAc (dC (.str ("around" : Str))) (dAc (dVar 6) dA0))) [6] mLst) dA0)))
  (sRet (d2 pAdd (d2 pAdd (dAl mLst (dAc (dAl mTup (dAc (dC (.str ("apart" : Str))) (dAc (dC (.int 0)) dA0))) dA0)) (dVar 3)) (dVar 4))))
noncomputable def _law_mixed : List PV → M PV := dFn 2 5
  (sSeq (sPar 3 4 (dAc (dAl qLstR (dAc (dVar 1) dA0)) (dAc (dAl mLstR dA0) dA0)))
  (sSeq (sFor (iRg1 (dAl qLen (dAc (dVar 1) dA0))) (tName 2) (sExpr (dM isL mAppend (dVar 4) (dAc (dM isL mPop1 (dVar 3) (dAc (dAl _law_take (dAc (dVar 0) (dAc (dAl qLen (dAc (dVar 3) dA0)) dA0))) dA0)) dA0))) [2])
  (sRet (dVar 4))))
noncomputable def _law_grown : List PV → M PV := dFn 2 9
  (sSeq (sAsg (dAl _law_mixed (dAc (dVar 0) (dAc (dCompL (iRg1 (dAl qLen (dAc (dVar 1) dA0))) (tName 6) bYes (dVar 6) [6] mLst) dA0))) (tName 2))
  (sSeq (sAsg (dCompL (iRg1 (dAl qLen (dAc (dVar 1) dA0))) (tName 6) bYes (dC .non) [6] mLstR) (tName 3))
  (sSeq (sFor (iRg1 (dAl qLen (dAc (dVar 2) dA0))) (tName 4) (sSeq (sAsg (dCompL (iSeq (dSl (dVar 2) oNone (oSome (dVar 4)))) (tName 8) (bVal (d2 pGt (d2 pIx (dVar 1) (dVar 8)) (dC (.int 0)))) (dVar 8) [8] mLst) (tName 5))
  (sIf (bAnd (bVal (d2 pNe (dVar 5) (dAl mLst dA0))) (bVal (d2 pGt (dAl _law_take (dAc (dVar 0) (dAc (dC (.int 4)) dA0))) (dC (.int 0))))) (sSeq (sAsg (dAl _law_one (dAc (dVar 0) (dAc (dVar 5) dA0))) (tName 7))
  (sAsg (dAl mTup (dAc (dVar 7) (dAc (dAl _law_take (dAc (dVar 0) (dAc (d2 pIx (dVar 1) (dVar 7)) dA0))) dA0))) (tSub (dVar 3) (d2 pIx (dVar 2) (dVar 4))))) sNext)) [4, 5, 7])
  (sRet (dAl qTup (dAc (dVar 3) dA0))))))
noncomputable def _law_climb : List PV → M PV := dFn 2 5
  (sSeq (sPar 3 4 (dAc (dAl mLstR dA0) (dAc (d2 pIx (dVar 0) (dVar 1)) dA0)))
  (sSeq (sFor (iRg1 (dAl qLen (dAc (dVar 0) dA0))) (tName 2) (sSeq (sIf (bVal (d2 pIs (dVar 4) (dC .non))) sBreak sNext)
  (sSeq (sExpr (dM isL mAppend (dVar 3) (dAc (dVar 4) dA0)))
  (sAsg (d2 pIx (dVar 0) (d2 pIx (dVar 4) (dC (.int 0)))) (tName 4)))) [2])
  (sRet (dVar 3))))
noncomputable def _law_standing : List PV → M PV := dFn 3 5
  (sSeq (sFor (iSeq (dAl _law_climb (dAc (dVar 0) (dAc (dVar 1) dA0)))) (tTupP 2 (tCons (tName 3) (tCons (tName 4) tNil))) (sIf (bVal (d2 pEq (dVar 3) (dVar 2))) (sRet (dAl mTup (dAc (dC (.str ("in" : Str))) (dAc (dVar 4) dA0)))) sNext) [3, 4])
  (sSeq (sFor (iSeq (dAl _law_climb (dAc (dVar 0) (dAc (dVar 2) dA0)))) (tTupP 2 (tCons (tName 3) (tCons (tName 4) tNil))) (sIf (bVal (d2 pEq (dVar 3) (dVar 1))) (sRet (dAl mTup (dAc (dC (.str ("around" : Str))) (dAc (dVar 4) dA0)))) sNext) [3, 4])
  (sRet (dAl mTup (dAc (dC (.str ("apart" : Str))) (dAc (dC (.int 0)) dA0))))))
noncomputable def _law_saying : List PV → M PV := dFn 3 10
  (sSeq (sAsg (dAl _law_take (dAc (dVar 0) (dAc (dAl qLen (dAc (dVar 1) dA0)) dA0))) (tName 3))
  (sSeq (sAsg (d2 pMod (dAl qInt (dAc (d2 pAdd (d2 pAdd (dVar 3) (dC (.int 1))) (dAl _law_take (dAc (dVar 0) (dAc (d2 pSub (dAl qLen (dAc (dVar 1) dA0)) (dC (.int 1))) dA0)))) dA0)) (dAl qLen (dAc (dVar 1) dA0))) (tName 4))
  (sSeq (sPar3 6 7 8 (dAc (dAl _law_standing (dAc (dVar 2) (dAc (dVar 3) (dAc (dVar 4) dA0)))) (dAc (d2 pGt (dAl _law_take (dAc (dVar 0) (dAc (dC (.int 12)) dA0))) (dC (.int 0))) (dAc (dAl mLstR dA0) dA0))))
  (sSeq (sFor (iSeq (dAl _law_every (dAc (dVar 1) (dAc (dVar 3) (dAc (dVar 4) dA0))))) (tName 5) (sSeq (sAsg (dIf (bVal (d2 pEq (d2 pIx (dVar 5) (dC (.int 0))) (dC (.str ("apart" : Str))))) (dC (.int 6)) (dC (.int 2))) (tName 9))
  (sIf (bOr (bVal (d2 pEq (dAl _law_take (dAc (dVar 0) (dAc (dVar 9) dA0))) (dC (.int 0)))) (bAnd (bTruth (dVar 7)) (bVal (d2 pEq (dVar 5) (dVar 6))))) (sExpr (dM isL mAppend (dVar 8) (dAc (dVar 5) dA0))) sNext)) [5, 9])
  (sRet (dAl mTup (dAc (dVar 3) (dAc (dVar 4) (dAc (dAl qTup (dAc (dVar 8) dA0)) dA0)))))))))
noncomputable def _law_sayings : List PV → M PV := dFn 3 5
  (sSeq (sAsg (dAl _law_grown (dAc (dVar 0) (dAc (dVar 1) dA0))) (tName 3))
  (sSeq (sIf (bVal (d2 pLt (dAl qLen (dAc (dVar 1) dA0)) (dC (.int 2)))) (sRet (dAl mLst dA0)) sNext)
  (sRet (dCompL (iRg1 (dAl _law_take (dAc (dVar 0) (dAc (d2 pAdd (dVar 2) (dC (.int 1))) dA0)))) (tName 4) bYes (dAl _law_saying (dAc (dVar 0) (dAc (dVar 1) (dAc (dVar 3) dA0)))) [4] mLst))))
noncomputable def _law_parts : List PV → M PV := dFn 2 8
  (sSeq (sPar 2 3 (dAc (dAl qSrtI (dAc (dVar 1) dA0)) (dAc (dAl mLstR dA0) dA0)))
  (sSeq (sWhile (bVal (d2 pNe (dVar 2) (dAl mLst dA0))) (sSeq (sAsg (dAl mTup (dAc (dAl mLst (dAc (d2 pIx (dVar 2) (dC (.int 0))) dA0)) (dAc (dC (.int 0)) dA0))) (tTupP 2 (tCons (tName 4) (tCons (tName 5) tNil))))
  (sSeq (sAsg (dSl (dVar 2) (oSome (dC (.int 1))) oNone) (tName 2))
  (sSeq (sWhile (bVal (d2 pLt (dVar 5) (dAl qLen (dAc (dVar 4) dA0)))) (sSeq (sAsg (dCompL (iSeq (dVar 2)) (tName 7) (bVal (d2 pNotIn (dAl mTup (dAc (dC (.str ("apart" : Str))) (dAc (dC (.int 0)) dA0))) (d2 pIx (dVar 0) (dAl mTup (dAc (d2 pIx (dVar 4) (dVar 5)) (dAc (dVar 7) dA0)))))) (dVar 7) [7] mLst) (tName 6))
  (sSeq (sAsg (dCompL (iSeq (dVar 2)) (tName 7) (bVal (d2 pNotIn (dVar 7) (dVar 6))) (dVar 7) [7] mLst) (tName 2))
  (sAsg (dAl mTup (dAc (d2 pAdd (dVar 4) (dVar 6)) (dAc (d2 pAdd (dVar 5) (dC (.int 1))) dA0))) (tTupP 2 (tCons (tName 4) (tCons (tName 5) tNil)))))) [6])
  (sExpr (dM isL mAppend (dVar 3) (dAc (dAl qTup (dAc (dAl qSrtI (dAc (dVar 4) dA0)) dA0)) dA0)))))) [4, 5, 6])
  (sRet (dVar 3))))
noncomputable def _law_less : List PV → M PV := dFn 2 3
  (sRet (dCompL (iSeq (dVar 0)) (tName 2) (bVal (d2 pNe (dVar 2) (dVar 1))) (dVar 2) [2] mLst))
noncomputable def _law_over : List PV → M PV := dFn 4 6
  (sRet (dCompL (iRg1 (d2 pIx (dVar 0) (dVar 2))) (tName 4) (bVal (d2 pEq (dCompL (iSeq (dVar 3)) (tName 5) (bVal (d2 pNotIn (dAl mTup (dAc (dC (.str ("around" : Str))) (dAc (dVar 4) dA0))) (d2 pIx (dVar 1) (dAl mTup (dAc (dVar 2) (dAc (dVar 5) dA0)))))) (dVar 5) [5] mLst) (dAl mLst dA0))) (dVar 4) [4] mLst))
noncomputable def _law_free : List PV → M PV := dFn 3 6
  (sSeq (sAsg (dAl mLstR dA0) (tName 3))
  (sSeq (sFor (iSeq (dVar 2)) (tName 4) (sIf (bVal (d2 pEq (dCompL (iSeq (dAl _law_parts (dAc (dVar 1) (dAc (dAl _law_less (dAc (dVar 2) (dAc (dVar 4) dA0))) dA0)))) (tName 5) (bVal (d2 pEq (dAl _law_over (dAc (dVar 0) (dAc (dVar 1) (dAc (dVar 4) (dAc (dVar 5) dA0))))) (dAl mLst dA0))) (dVar 5) [5] mLst) (dAl mLst dA0))) (sExpr (dM isL mAppend (dVar 3) (dAc (dVar 4) dA0))) sNext) [4])
  (sRet (dVar 3))))
noncomputable def _law_solved : List PV → M PV := dFn 2 11
  (sSeq (sPar 3 4 (dAc (dCompL (iRg1 (dAl qLen (dAc (dVar 0) dA0))) (tName 10) bYes (dC .non) [10] mLstR) (dAc (dAl mLstR dA0) dA0)))
  (sSeq (sFor (iSeq (dAl _law_parts (dAc (dVar 1) (dAc (dCompL (iRg1 (dAl qLen (dAc (dVar 0) dA0))) (tName 10) bYes (dVar 10) [10] mLst) dA0)))) (tName 2) (sExpr (dM isL mAppend (dVar 4) (dAc (dAl mTup (dAc (dVar 2) (dAc (dC .non) dA0))) dA0))) [2])
  (sSeq (sWhile (bVal (d2 pNe (dVar 4) (dAl mLst dA0))) (sSeq (sAsg (dM0 isL mPop0 (dVar 4)) (tTupP 2 (tCons (tName 2) (tCons (tName 8) tNil))))
  (sSeq (sAsg (dAl _law_free (dAc (dVar 0) (dAc (dVar 1) (dAc (dVar 2) dA0)))) (tName 5))
  (sSeq (sIf (bVal (d2 pEq (dVar 5) (dAl mLst dA0))) (sRet (dAl mTup (dAc (dC .non) (dAc (dVar 2) dA0)))) sNext)
  (sSeq (sAsg (d2 pIx (dVar 5) (d2 pSub (dAl qLen (dAc (dVar 5) dA0)) (dC (.int 1)))) (tName 6))
  (sSeq (sAsg (dVar 8) (tSub (dVar 3) (dVar 6)))
  (sFor (iSeq (dAl _law_parts (dAc (dVar 1) (dAc (dAl _law_less (dAc (dVar 2) (dAc (dVar 6) dA0))) dA0)))) (tName 7) (sSeq (sAsg (dAl _law_over (dAc (dVar 0) (dAc (dVar 1) (dAc (dVar 6) (dAc (dVar 7) dA0))))) (tName 9))
  (sExpr (dM isL mAppend (dVar 4) (dAc (dAl mTup (dAc (dVar 7) (dAc (dAl mTup (dAc (dVar 6) (dAc (d2 pIx (dVar 9) (d2 pSub (dAl qLen (dAc (dVar 9) dA0)) (dC (.int 1)))) dA0))) dA0))) dA0)))) [7, 9])))))) [2, 8, 5, 6, 7, 9])
  (sRet (dAl mTup (dAc (dAl qTup (dAc (dVar 3) dA0)) (dAc (dC .non) dA0)))))))
noncomputable def room_way : List PV → M PV := dFn 3 4
  (sSeq (sAsg (d2 pIx (dVar 0) (dVar 1)) (tName 3))
  (sSeq (sWhile (bVal (d2 pIsNot (dVar 3) (dC .non))) (sSeq (sIf (bVal (d2 pEq (d2 pIx (dVar 3) (dC (.int 0))) (dVar 2))) (sRet (d2 pIx (dVar 3) (dC (.int 1)))) sNext)
  (sAsg (d2 pIx (dVar 0) (d2 pIx (dVar 3) (dC (.int 0)))) (tName 3))) [])
  (sRet (dC .non))))
noncomputable def standing_in : List PV → M PV := dFn 3 4
  (sSeq (sAsg (dAl room_way (dAc (dVar 0) (dAc (dVar 1) (dAc (dVar 2) dA0)))) (tName 3))
  (sSeq (sIf (bVal (d2 pIsNot (dVar 3) (dC .non))) (sRet (dAl mTup (dAc (dC (.str ("in" : Str))) (dAc (dVar 3) dA0)))) sNext)
  (sSeq (sAsg (dAl room_way (dAc (dVar 0) (dAc (dVar 2) (dAc (dVar 1) dA0)))) (tName 3))
  (sRet (dIf (bVal (d2 pIs (dVar 3) (dC .non))) (dC (.tup [(.str ("apart" : Str)), (.int 0)])) (dAl mTup (dAc (dC (.str ("around" : Str))) (dAc (dVar 3) dA0))))))))
noncomputable def first_broken : List PV → M PV := dFn 2 6
  (sSeq (sFor (iEn (d2 pIx (dVar 0) (dC (.int 1)))) (tTupP 2 (tCons (tName 2) (tCons (tTupP 3 (tCons (tName 3) (tCons (tName 4) (tCons (tName 5) tNil)))) tNil))) (sIf (bVal (d2 pNotIn (dAl standing_in (dAc (dVar 1) (dAc (dVar 3) (dAc (dVar 4) dA0)))) (dVar 5))) (sRet (dVar 2)) sNext) [2, 3, 4, 5])
  (sRet (dC .non)))
noncomputable def is_pair : List PV → M PV := dFn 1 1
  (sRet (dAnd (dAl qIsI (dAc (dVar 0) (dAc (dC (.ty "tuple")) dA0))) (d2 pEq (dAl qLen (dAc (dVar 0) dA0)) (dC (.int 2)))))
noncomputable def is_whole : List PV → M PV := dFn 1 1
  (sRet (dAnd (dAl qIsI (dAc (dVar 0) (dAc (dC (.ty "int")) dA0))) (dNot (dAl qIsI (dAc (dVar 0) (dAc (dC (.ty "bool")) dA0))))))
noncomputable def is_rooms : List PV → M PV := dFn 1 2
  (sSeq (sIf (bOr (bNot (bTruth (dAl qIsI (dAc (dVar 0) (dAc (dC (.ty "tuple")) dA0))))) (bVal (d2 pGt (dAl qLen (dAc (dVar 0) dA0)) (dC (.int 24))))) (sRet (dC (.bl false))) sNext)
  (sRet (d2 pEq (dCompL (iSeq (dVar 0)) (tName 1) (bOr (bNot (bTruth (dAl is_whole (dAc (dVar 1) dA0)))) (bNot (bVal (dChain pLe pLe (dC (.int 0)) (dVar 1) (dC (.int 4)))))) (dVar 1) [1] mLst) (dAl mLst dA0))))
noncomputable def all_standings : List PV → M PV := dFn 3 5
  (sSeq (sAsg (dCompL (iRg1 (d2 pIx (dVar 0) (dVar 2))) (tName 4) bYes (dAl mTup (dAc (dC (.str ("in" : Str))) (dAc (dVar 4) dA0))) [4] mLst) (tName 3))
  (sRet (d2 pAdd (d2 pAdd (dAl mTup (dAc (dC (.tup [(.str ("apart" : Str)), (.int 0)])) dA0)) (dAl qTup (dAc (dVar 3) dA0))) (dAl qTup (dAc (dCompL (iRg1 (d2 pIx (dVar 0) (dVar 1))) (tName 4) bYes (dAl mTup (dAc (dC (.str ("around" : Str))) (dAc (dVar 4) dA0))) [4] mLst) dA0)))))
noncomputable def is_standing : List PV → M PV := dFn 4 4
  (sSeq (sIf (bOr (bNot (bTruth (dAl qIsI (dAc (dVar 3) (dAc (dC (.ty "tuple")) dA0))))) (bOr (bVal (d2 pNe (dAl qLen (dAc (dVar 3) dA0)) (dC (.int 2)))) (bOr (bNot (bTruth (dAl qIsI (dAc (d2 pIx (dVar 3) (dC (.int 0))) (dAc (dC (.ty "str")) dA0))))) (bNot (bTruth (dAl is_whole (dAc (d2 pIx (dVar 3) (dC (.int 1))) dA0))))))) (sRet (dC (.bl false))) sNext)
  (sRet (d2 pIn (dVar 3) (dAl all_standings (dAc (dVar 0) (dAc (dVar 1) (dAc (dVar 2) dA0)))))))
noncomputable def is_lets : List PV → M PV := dFn 4 8
  (sSeq (sIf (bNot (bTruth (dAl qIsI (dAc (dVar 3) (dAc (dC (.ty "tuple")) dA0))))) (sRet (dC (.bl false))) sNext)
  (sSeq (sAsg (dAl all_standings (dAc (dVar 0) (dAc (dVar 1) (dAc (dVar 2) dA0)))) (tName 4))
  (sSeq (sAsg (d1 pNeg (dC (.int 1))) (tName 5))
  (sSeq (sFor (iSeq (dVar 3)) (tName 6) (sSeq (sIf (bNot (bTruth (dAl is_standing (dAc (dVar 0) (dAc (dVar 1) (dAc (dVar 2) (dAc (dVar 6) dA0))))))) (sRet (dC (.bl false))) sNext)
  (sSeq (sAsg (dM isT mIndexT (dVar 4) (dAc (dVar 6) dA0)) (tName 7))
  (sSeq (sIf (bVal (d2 pLe (dVar 7) (dVar 5))) (sRet (dC (.bl false))) sNext)
  (sAsg (dVar 7) (tName 5))))) [6, 7])
  (sRet (dC (.bl true)))))))
noncomputable def is_thing : List PV → M PV := dFn 2 2
  (sRet (dAnd (dAl is_whole (dAc (dVar 1) dA0)) (dChain pLe pLt (dC (.int 0)) (dVar 1) (dAl qLen (dAc (dVar 0) dA0)))))
noncomputable def says_right : List PV → M PV := dFn 2 5
  (sSeq (sIf (bOr (bNot (bTruth (dAl qIsI (dAc (dVar 1) (dAc (dC (.ty "tuple")) dA0))))) (bVal (d2 pNe (dAl qLen (dAc (dVar 1) dA0)) (dC (.int 3))))) (sRet (dC (.bl false))) sNext)
  (sSeq (sAsg (dVar 1) (tTupP 3 (tCons (tName 2) (tCons (tName 3) (tCons (tName 4) tNil)))))
  (sSeq (sIf (bOr (bNot (bTruth (dAl is_thing (dAc (dVar 0) (dAc (dVar 2) dA0))))) (bOr (bNot (bTruth (dAl is_thing (dAc (dVar 0) (dAc (dVar 3) dA0))))) (bVal (d2 pEq (dVar 2) (dVar 3))))) (sRet (dC (.bl false))) sNext)
  (sRet (dAl is_lets (dAc (dVar 0) (dAc (dVar 2) (dAc (dVar 3) (dAc (dVar 4) dA0)))))))))
noncomputable def first_wrong : List PV → M PV := dFn 2 4
  (sSeq (sFor (iEn (dVar 1)) (tTupP 2 (tCons (tName 2) (tCons (tName 3) tNil))) (sIf (bNot (bTruth (dAl says_right (dAc (dVar 0) (dAc (dVar 3) dA0))))) (sRet (dVar 2)) sNext) [2, 3])
  (sRet (dC .non)))
noncomputable def is_book : List PV → M PV := dFn 1 1
  (sSeq (sIf (bOr (bNot (bTruth (dAl is_pair (dAc (dVar 0) dA0)))) (bOr (bNot (bTruth (dAl is_rooms (dAc (d2 pIx (dVar 0) (dC (.int 0))) dA0)))) (bNot (bTruth (dAl qIsI (dAc (d2 pIx (dVar 0) (dC (.int 1))) (dAc (dC (.ty "tuple")) dA0))))))) (sRet (dC (.bl false))) sNext)
  (sRet (dAnd (d2 pLe (dAl qLen (dAc (d2 pIx (dVar 0) (dC (.int 1))) dA0)) (dC (.int 400))) (d2 pIs (dAl first_wrong (dAc (d2 pIx (dVar 0) (dC (.int 0))) (dAc (d2 pIx (dVar 0) (dC (.int 1))) dA0))) (dC .non)))))
noncomputable def is_place : List PV → M PV := dFn 3 5
  (sSeq (sIf (bVal (d2 pIs (dVar 2) (dC .non))) (sRet (dC (.bl true))) sNext)
  (sSeq (sIf (bOr (bNot (bTruth (dAl qIsI (dAc (dVar 2) (dAc (dC (.ty "tuple")) dA0))))) (bOr (bVal (d2 pNe (dAl qLen (dAc (dVar 2) dA0)) (dC (.int 2)))) (bOr (bNot (bTruth (dAl is_whole (dAc (d2 pIx (dVar 2) (dC (.int 0))) dA0)))) (bNot (bTruth (dAl is_whole (dAc (d2 pIx (dVar 2) (dC (.int 1))) dA0))))))) (sRet (dC (.bl false))) sNext)
  (sSeq (sAsg (dVar 2) (tTupP 2 (tCons (tName 3) (tCons (tName 4) tNil))))
  (sRet (dAnd (dChain pLe pLt (dC (.int 0)) (dVar 3) (dAl qLen (dAc (dVar 0) dA0))) (dAnd (d2 pNe (dVar 3) (dVar 1)) (dChain pLe pLt (dC (.int 0)) (dVar 4) (d2 pIx (dVar 0) (dVar 3)))))))))
noncomputable def first_bad : List PV → M PV := dFn 2 4
  (sSeq (sFor (iEn (dVar 1)) (tTupP 2 (tCons (tName 2) (tCons (tName 3) tNil))) (sIf (bNot (bTruth (dAl is_place (dAc (dVar 0) (dAc (dVar 2) (dAc (dVar 3) dA0)))))) (sRet (dVar 2)) sNext) [2, 3])
  (sRet (dC .non)))
noncomputable def lies_in_itself : List PV → M PV := dFn 2 4
  (sSeq (sAsg (dVar 1) (tName 2))
  (sSeq (sFor (iRg1 (dAl qLen (dAc (dVar 0) dA0))) (tName 3) (sSeq (sIf (bVal (d2 pIs (d2 pIx (dVar 0) (dVar 2)) (dC .non))) (sRet (dC (.bl false))) sNext)
  (sSeq (sAsg (d2 pIx (d2 pIx (dVar 0) (dVar 2)) (dC (.int 0))) (tName 2))
  (sIf (bVal (d2 pEq (dVar 2) (dVar 1))) (sRet (dC (.bl true))) sNext))) [3])
  (sRet (dC (.bl false)))))
noncomputable def first_ring : List PV → M PV := dFn 1 2
  (sSeq (sFor (iRg1 (dAl qLen (dAc (dVar 0) dA0))) (tName 1) (sIf (bTruth (dAl lies_in_itself (dAc (dVar 0) (dAc (dVar 1) dA0)))) (sRet (dVar 1)) sNext) [1])
  (sRet (dC .non)))
noncomputable def is_forest : List PV → M PV := dFn 2 2
  (sSeq (sIf (bOr (bNot (bTruth (dAl is_rooms (dAc (dVar 0) dA0)))) (bOr (bNot (bTruth (dAl qIsI (dAc (dVar 1) (dAc (dC (.ty "tuple")) dA0))))) (bVal (d2 pNe (dAl qLen (dAc (dVar 1) dA0)) (dAl qLen (dAc (dVar 0) dA0)))))) (sRet (dC (.bl false))) sNext)
  (sRet (dAnd (d2 pIs (dAl first_bad (dAc (dVar 0) (dAc (dVar 1) dA0))) (dC .non)) (d2 pIs (dAl first_ring (dAc (dVar 1) dA0)) (dC .non)))))
noncomputable def keeps : List PV → M PV := dFn 2 2
  (sSeq (sIf (bOr (bNot (bTruth (dAl is_book (dAc (dVar 0) dA0)))) (bNot (bTruth (dAl is_forest (dAc (d2 pIx (dVar 0) (dC (.int 0))) (dAc (dVar 1) dA0)))))) (sRet (dC (.bl false))) sNext)
  (sRet (d2 pIs (dAl first_broken (dAc (dVar 0) (dAc (dVar 1) dA0))) (dC .non))))
noncomputable def _law_turned : List PV → M PV := dFn 1 1
  (sRet (dAl mTup (dAc (d2 pIx (dDisp mDk [((dC (.str ("in" : Str))), (dC (.str ("around" : Str)))), ((dC (.str ("around" : Str))), (dC (.str ("in" : Str)))), ((dC (.str ("apart" : Str))), (dC (.str ("apart" : Str))))]) (d2 pIx (dVar 0) (dC (.int 0)))) (dAc (d2 pIx (dVar 0) (dC (.int 1))) dA0))))
noncomputable def _law_table : List PV → M PV := dFn 2 8
  (sSeq (sAsg dNewT (tName 2))
  (sSeq (sFor (iRg1 (dAl qLen (dAc (dVar 0) dA0))) (tName 3) (sFor (iRg1 (dAl qLen (dAc (dVar 0) dA0))) (tName 4) (sIf (bVal (d2 pNe (dVar 3) (dVar 4))) (sAsg (dAl _law_every (dAc (dVar 0) (dAc (dVar 3) (dAc (dVar 4) dA0)))) (tSub (dVar 2) (dAl mTup (dAc (dVar 3) (dAc (dVar 4) dA0))))) sNext) [4]) [3, 4])
  (sSeq (sFor (iSeq (dVar 1)) (tTupP 3 (tCons (tName 3) (tCons (tName 4) (tCons (tName 5) tNil)))) (sSeq (sAsg (dCompL (iSeq (dVar 5)) (tName 7) bYes (dAl _law_turned (dAc (dVar 7) dA0)) [7] mLst) (tName 6))
  (sSeq (sAsg (dCompL (iSeq (d2 pIx (dVar 2) (dAl mTup (dAc (dVar 3) (dAc (dVar 4) dA0))))) (tName 7) (bVal (d2 pIn (dVar 7) (dVar 5))) (dVar 7) [7] mLst) (tSub (dVar 2) (dAl mTup (dAc (dVar 3) (dAc (dVar 4) dA0)))))
  (sAsg (dCompL (iSeq (d2 pIx (dVar 2) (dAl mTup (dAc (dVar 4) (dAc (dVar 3) dA0))))) (tName 7) (bVal (d2 pIn (dVar 7) (dVar 6))) (dVar 7) [7] mLst) (tSub (dVar 2) (dAl mTup (dAc (dVar 4) (dAc (dVar 3) dA0))))))) [3, 4, 5, 6])
  (sRet (dVar 2)))))
noncomputable def _law_number : List PV → M PV := dFn 2 2
  (sRet (dAnd (dAl qIsI (dAc (dVar 0) (dAc (dC (.ty "int")) dA0))) (dAnd (dNot (dAl qIsI (dAc (dVar 0) (dAc (dC (.ty "bool")) dA0)))) (dChain pLe pLt (dC (.int 0)) (dVar 0) (dVar 1)))))
noncomputable def _law_is_forest : List PV → M PV := dFn 2 4
  (sSeq (sIf (bOr (bNot (bTruth (dAl qIsI (dAc (dVar 1) (dAc (dC (.ty "tuple")) dA0))))) (bVal (d2 pNe (dAl qLen (dAc (dVar 1) dA0)) (dAl qLen (dAc (dVar 0) dA0))))) (sRet (dC (.bl false))) sNext)
  (sSeq (sFor (iRg1 (dAl qLen (dAc (dVar 1) dA0))) (tName 2) (sSeq (sAsg (d2 pIx (dVar 1) (dVar 2)) (tName 3))
  (sIf (bVal (d2 pIsNot (dVar 3) (dC .non))) (sSeq (sIf (bOr (bNot (bTruth (dAl qIsI (dAc (dVar 3) (dAc (dC (.ty "tuple")) dA0))))) (bVal (d2 pNe (dAl qLen (dAc (dVar 3) dA0)) (dC (.int 2))))) (sRet (dC (.bl false))) sNext)
  (sSeq (sIf (bOr (bNot (bTruth (dAl _law_number (dAc (d2 pIx (dVar 3) (dC (.int 0))) (dAc (dAl qLen (dAc (dVar 0) dA0)) dA0))))) (bVal (d2 pEq (d2 pIx (dVar 3) (dC (.int 0))) (dVar 2)))) (sRet (dC (.bl false))) sNext)
  (sIf (bNot (bTruth (dAl _law_number (dAc (d2 pIx (dVar 3) (dC (.int 1))) (dAc (d2 pIx (dVar 0) (d2 pIx (dVar 3) (dC (.int 0)))) dA0))))) (sRet (dC (.bl false))) sNext))) sNext)) [2, 3])
  (sSeq (sFor (iRg1 (dAl qLen (dAc (dVar 1) dA0))) (tName 2) (sIf (bVal (d2 pIn (dVar 2) (dCompL (iSeq (dAl _law_climb (dAc (dVar 1) (dAc (dVar 2) dA0)))) (tName 3) bYes (d2 pIx (dVar 3) (dC (.int 0))) [3] mLst))) (sRet (dC (.bl false))) sNext) [2])
  (sRet (dC (.bl true))))))
noncomputable def _law_kept : List PV → M PV := dFn 2 4
  (sSeq (sFor (iRg1 (dAl qLen (dAc (dVar 1) dA0))) (tName 2) (sFor (iRg1 (dVar 2)) (tName 3) (sIf (bVal (d2 pNotIn (dAl _law_standing (dAc (dVar 1) (dAc (dVar 2) (dAc (dVar 3) dA0)))) (d2 pIx (dVar 0) (dAl mTup (dAc (dVar 2) (dAc (dVar 3) dA0)))))) (sRet (dC (.bl false))) sNext) [3]) [2, 3])
  (sRet (dC (.bl true))))
noncomputable def made_rooms : List PV → M PV := dFn 1 3
  (sSeq (sIf (bNot (bTruth (dAl qIsI (dAc (dVar 0) (dAc (dC (.ty "tuple")) dA0))))) (sRaise ("BadRooms" : Str) (d1 pNeg (dC (.int 1)))) sNext)
  (sSeq (sIf (bVal (d2 pGt (dAl qLen (dAc (dVar 0) dA0)) (dC (.int 24)))) (sRaise ("TooMany" : Str) (dAl qLen (dAc (dVar 0) dA0))) sNext)
  (sSeq (sFor (iEn (dVar 0)) (tTupP 2 (tCons (tName 1) (tCons (tName 2) tNil))) (sIf (bOr (bNot (bTruth (dAl is_whole (dAc (dVar 2) dA0)))) (bNot (bVal (dChain pLe pLe (dC (.int 0)) (dVar 2) (dC (.int 4)))))) (sRaise ("BadRooms" : Str) (dVar 1)) sNext) [1, 2])
  (sRet (dVar 0)))))
noncomputable def made_book : List PV → M PV := dFn 1 4
  (sSeq (sIf (bNot (bTruth (dAl is_pair (dAc (dVar 0) dA0)))) (sRaise ("BadBook" : Str) (d1 pNeg (dC (.int 1)))) sNext)
  (sSeq (sAsg (dAl made_rooms (dAc (d2 pIx (dVar 0) (dC (.int 0))) dA0)) (tName 1))
  (sSeq (sAsg (d2 pIx (dVar 0) (dC (.int 1))) (tName 2))
  (sSeq (sIf (bNot (bTruth (dAl qIsI (dAc (dVar 2) (dAc (dC (.ty "tuple")) dA0))))) (sRaise ("BadBook" : Str) (d1 pNeg (dC (.int 1)))) sNext)
  (sSeq (sIf (bVal (d2 pGt (dAl qLen (dAc (dVar 2) dA0)) (dC (.int 400)))) (sRaise ("TooMany" : Str) (dAl qLen (dAc (dVar 2) dA0))) sNext)
  (sSeq (sAsg (dAl first_wrong (dAc (dVar 1) (dAc (dVar 2) dA0))) (tName 3))
  (sSeq (sIf (bVal (d2 pIsNot (dVar 3) (dC .non))) (sRaise ("BadSaying" : Str) (dVar 3)) sNext)
  (sRet (dAl mTup (dAc (dVar 1) (dAc (dVar 2) dA0)))))))))))
noncomputable def want_thing : List PV → M PV := dFn 2 2
  (sIf (bNot (bTruth (dAl is_thing (dAc (dVar 0) (dAc (dVar 1) dA0))))) (sRaise ("BadThing" : Str) (dVar 1)) sNext)
noncomputable def want_pair : List PV → M PV := dFn 3 3
  (sSeq (sExpr (dAl want_thing (dAc (dVar 0) (dAc (dVar 1) dA0))))
  (sSeq (sExpr (dAl want_thing (dAc (dVar 0) (dAc (dVar 2) dA0))))
  (sIf (bVal (d2 pEq (dVar 1) (dVar 2))) (sRaise ("BadThing" : Str) (dVar 2)) sNext)))
noncomputable def common_lets : List PV → M PV := dFn 2 3
  (sRet (dAl qTup (dAc (dCompL (iSeq (dVar 0)) (tName 2) (bVal (d2 pIn (dVar 2) (dVar 1))) (dVar 2) [2] mLst) dA0)))
noncomputable def turned : List PV → M PV := dFn 1 3
  (sSeq (sAsg (dVar 0) (tTupP 2 (tCons (tName 1) (tCons (tName 2) tNil))))
  (sRet (dAl mTup (dAc (d2 (pGd ("TURNED" : Str) [(("apart" : Str), ("apart" : Str)), (("in" : Str), ("around" : Str)), (("around" : Str), ("in" : Str))]) (dC (.con ("TURNED" : Str))) (dVar 1)) (dAc (dVar 2) dA0)))))
noncomputable def turned_lets : List PV → M PV := dFn 1 5
  (sSeq (sAsg (dCompL (iSeq (dVar 0)) (tName 4) (bVal (d2 pEq (d2 pIx (dVar 4) (dC (.int 0))) (dC (.str ("apart" : Str))))) (dVar 4) [4] mLst) (tName 1))
  (sSeq (sAsg (dCompL (iSeq (dVar 0)) (tName 4) (bVal (d2 pEq (d2 pIx (dVar 4) (dC (.int 0))) (dC (.str ("around" : Str))))) (dAl turned (dAc (dVar 4) dA0)) [4] mLst) (tName 2))
  (sSeq (sAsg (dCompL (iSeq (dVar 0)) (tName 4) (bVal (d2 pEq (d2 pIx (dVar 4) (dC (.int 0))) (dC (.str ("in" : Str))))) (dAl turned (dAc (dVar 4) dA0)) [4] mLst) (tName 3))
  (sRet (dAl qTup (dAc (d2 pAdd (d2 pAdd (dVar 1) (dVar 2)) (dVar 3)) dA0))))))
noncomputable def lets_of : List PV → M PV := dFn 3 9
  (sSeq (sAsg (dVar 0) (tTupP 2 (tCons (tName 4) (tCons (tName 5) tNil))))
  (sSeq (sAsg (dAl all_standings (dAc (dVar 4) (dAc (dVar 1) (dAc (dVar 2) dA0)))) (tName 3))
  (sSeq (sFor (iSeq (dVar 5)) (tTupP 3 (tCons (tName 6) (tCons (tName 7) (tCons (tName 8) tNil)))) (sIf (bAnd (bVal (d2 pEq (dVar 6) (dVar 1))) (bVal (d2 pEq (dVar 7) (dVar 2)))) (sAsg (dAl common_lets (dAc (dVar 3) (dAc (dVar 8) dA0))) (tName 3)) (sIf (bAnd (bVal (d2 pEq (dVar 6) (dVar 2))) (bVal (d2 pEq (dVar 7) (dVar 1)))) (sAsg (dAl common_lets (dAc (dVar 3) (dAc (dAl turned_lets (dAc (dVar 8) dA0)) dA0))) (tName 3)) sNext)) [6, 7, 8])
  (sRet (dVar 3)))))
noncomputable def let_ : List PV → M PV := dFn 3 3
  (sSeq (sAsg (dAl made_book (dAc (dVar 0) dA0)) (tName 0))
  (sSeq (sExpr (dAl want_pair (dAc (d2 pIx (dVar 0) (dC (.int 0))) (dAc (dVar 1) (dAc (dVar 2) dA0)))))
  (sRet (dAl lets_of (dAc (dVar 0) (dAc (dVar 1) (dAc (dVar 2) dA0)))))))
noncomputable def _law_other : List PV → M PV := dFn 3 3
  (sRet (d2 pMod (dAl qInt (dAc (d2 pAdd (d2 pAdd (dVar 1) (dC (.int 1))) (dAl _law_take (dAc (dVar 0) (dAc (d2 pSub (dVar 2) (dC (.int 1))) dA0)))) dA0)) (dVar 2)))
noncomputable def _law_lot : List PV → M PV := dFn 4 7
  (sSeq (sPar 4 5 (dAc (dAl _law_every (dAc (dVar 1) (dAc (dVar 2) (dAc (dVar 3) dA0)))) (dAc (dAl _law_take (dAc (dVar 0) (dAc (dC (.int 8)) dA0))) dA0)))
  (sSeq (sIf (bVal (d2 pLt (dVar 5) (dC (.int 3)))) (sRet (d2 pIx (dAl mLst (dAc (dAl mTup dA0) (dAc (dAl qTup (dAc (dVar 4) dA0)) (dAc (dAl qTup (dAc (dSl (dVar 4) (oSome (dC (.int 1))) oNone) dA0)) dA0)))) (dVar 5))) sNext)
  (sRet (dAl qTup (dAc (dCompL (iSeq (dVar 4)) (tName 6) (bVal (d2 pEq (dAl _law_take (dAc (dVar 0) (dAc (dC (.int 2)) dA0))) (dC (.int 0)))) (dVar 6) [6] mLst) dA0)))))
noncomputable def is_lot : List PV → M PV := dFn 2 4
  (sSeq (sIf (bNot (bTruth (dAl qIsI (dAc (dVar 1) (dAc (dC (.ty "tuple")) dA0))))) (sRet (dC (.bl false))) sNext)
  (sSeq (sAsg (d1 pNeg (dC (.int 1))) (tName 2))
  (sSeq (sFor (iSeq (dVar 1)) (tName 3) (sSeq (sIf (bOr (bNot (bTruth (dAl is_thing (dAc (dVar 0) (dAc (dVar 3) dA0))))) (bVal (d2 pLe (dVar 3) (dVar 2)))) (sRet (dC (.bl false))) sNext)
  (sAsg (dVar 3) (tName 2))) [3])
  (sRet (dC (.bl true))))))
noncomputable def want_lot : List PV → M PV := dFn 2 2
  (sIf (bNot (bTruth (dAl is_lot (dAc (dVar 0) (dAc (dVar 1) dA0))))) (sRaise ("BadLot" : Str) (d1 pNeg (dC (.int 1)))) sNext)
noncomputable def reached : List PV → M PV := dFn 3 8
  (sSeq (sAsg (dDc (.dK []) (iSeq (dVar 1)) (tName 6) bYes (dcP (dVar 6) (dC (.bl true))) [6]) (tName 3))
  (sSeq (sAsg (dDisp mDkR [((dVar 2), (dC (.bl true)))]) (tName 4))
  (sSeq (sAsg (dAl mLstR (dAc (dVar 2) dA0)) (tName 5))
  (sSeq (sWhile (bTruth (dVar 5)) (sSeq (sAsg (dM0 isL mPop0 (dVar 5)) (tName 6))
  (sFor (iSeq (d2 pIx (dVar 0) (dVar 6))) (tName 7) (sIf (bAnd (bVal (d2 pIn (dVar 7) (dVar 3))) (bVal (d2 pNotIn (dVar 7) (dVar 4)))) (sSeq (sAsg (dC (.bl true)) (tSub (dVar 4) (dVar 7)))
  (sExpr (dM isL mAppend (dVar 5) (dAc (dVar 7) dA0)))) sNext) [7])) [6, 7])
  (sRet (dAl qTup (dAc (dCompL (iSeq (dVar 1)) (tName 6) (bVal (d2 pIn (dVar 6) (dVar 4))) (dVar 6) [6] mLst) dA0)))))))
noncomputable def parts_in : List PV → M PV := dFn 2 6
  (sSeq (sAsg (dAl mLstR dA0) (tName 2))
  (sSeq (sAsg (dVar 1) (tName 3))
  (sSeq (sWhile (bTruth (dVar 3)) (sSeq (sAsg (dAl reached (dAc (d2 pIx (dVar 0) (dC (.int 2))) (dAc (dVar 3) (dAc (d2 pIx (dVar 3) (dC (.int 0))) dA0)))) (tName 4))
  (sSeq (sExpr (dM isL mAppend (dVar 2) (dAc (dVar 4) dA0)))
  (sAsg (dAl qTup (dAc (dCompL (iSeq (dVar 3)) (tName 5) (bVal (d2 pNotIn (dVar 5) (dVar 4))) (dVar 5) [5] mLst) dA0)) (tName 3)))) [4])
  (sRet (dAl qTup (dAc (dVar 2) dA0))))))
noncomputable def all_lets : List PV → M PV := dFn 1 8
  (sSeq (sAsg (dVar 0) (tTupP 2 (tCons (tName 3) (tCons (tName 4) tNil))))
  (sSeq (sAsg (dAl qLen (dAc (dVar 3) dA0)) (tName 1))
  (sSeq (sAsg (dDc (.dT []) (iRg1 (dVar 1)) (tName 5) bYes (fun n => dcS (iRg1 (dVar 1)) (tName 6) (bVal (d2 pNe (dVar 5) (dVar 6))) [6] (dcP (dAl mTup (dAc (dVar 5) (dAc (dVar 6) dA0))) (dAl all_standings (dAc (dVar 3) (dAc (dVar 5) (dAc (dVar 6) dA0)))) n)) [5, 6]) (tName 2))
  (sSeq (sFor (iSeq (dVar 4)) (tTupP 3 (tCons (tName 5) (tCons (tName 6) (tCons (tName 7) tNil)))) (sSeq (sAsg (dAl common_lets (dAc (d2 pIx (dVar 2) (dAl mTup (dAc (dVar 5) (dAc (dVar 6) dA0)))) (dAc (dVar 7) dA0))) (tSub (dVar 2) (dAl mTup (dAc (dVar 5) (dAc (dVar 6) dA0)))))
  (sAsg (dAl common_lets (dAc (d2 pIx (dVar 2) (dAl mTup (dAc (dVar 6) (dAc (dVar 5) dA0)))) (dAc (dAl turned_lets (dAc (dVar 7) dA0)) dA0))) (tSub (dVar 2) (dAl mTup (dAc (dVar 6) (dAc (dVar 5) dA0)))))) [5, 6, 7])
  (sRet (dVar 2))))))
noncomputable def near_of : List PV → M PV := dFn 2 5
  (sSeq (sAsg (dAl qLen (dAc (dVar 0) dA0)) (tName 2))
  (sRet (dAl qTup (dAc (dCompL (iRg1 (dVar 2)) (tName 3) bYes (dAl qTup (dAc (dCompL (iRg1 (dVar 2)) (tName 4) (bAnd (bVal (d2 pNe (dVar 4) (dVar 3))) (bVal (d2 pNotIn (dC (.tup [(.str ("apart" : Str)), (.int 0)])) (d2 pIx (dVar 1) (dAl mTup (dAc (dVar 3) (dAc (dVar 4) dA0))))))) (dVar 4) [4] mLst) dA0)) [3] mLst) dA0))))
noncomputable def world_of : List PV → M PV := dFn 1 2
  (sSeq (sAsg (dAl all_lets (dAc (dVar 0) dA0)) (tName 1))
  (sRet (dAl mTup (dAc (d2 pIx (dVar 0) (dC (.int 0))) (dAc (dVar 1) (dAc (dAl near_of (dAc (d2 pIx (dVar 0) (dC (.int 0))) (dAc (dVar 1) dA0))) dA0))))))
noncomputable def parts : List PV → M PV := dFn 2 2
  (sSeq (sAsg (dAl made_book (dAc (dVar 0) dA0)) (tName 0))
  (sSeq (sExpr (dAl want_lot (dAc (d2 pIx (dVar 0) (dC (.int 0))) (dAc (dVar 1) dA0))))
  (sRet (dAl parts_in (dAc (dAl world_of (dAc (dVar 0) dA0)) (dAc (dVar 1) dA0))))))
end Lib
set_option Elab.async false
set_option linter.all false
set_option maxRecDepth 100000
set_option maxHeartbeats 2000000
/-! DnLaw: the end of a law. -/
namespace DN
open PySem PySem.Spec PyProof.Rows L2
/-- a written tuple of the module -/
theorem rl_wtup {K : PySem.W.Frag} {mg : Str → Option Value} {T : TR} {ρ : List Addr} {H : Hp} {l : List PV} {a : Addr} {xs : List V} (hw : isW l = true) (h : SqT K (fun _ => none) a xs) (r : RlAll ⟨K, mg, T⟩ ρ H l xs) : Rl ⟨K, mg, T⟩ ρ H (.tup l) (.ref a) := by
  rcases h with (h | ⟨o, h⟩) | ⟨o, its, n, h1, h2, h3, h4, h5⟩
  · cases h
  · cases h
  · exact .tup (.inr ⟨hw, o, its, n, h1, h2, h3, h4, h5⟩) r
theorem cal_one {P : Program} {w : World} {K : PySem.W.Frag} {mg : Str → Option Value} {base : Heap} {k : Nat} {x p : Str} {d : List PV → M PV} {fa : Addr} (c : Cal P w K mg base [] k x [p] d) (hm : mg x = some (.ref fa)) : ∃ fd, FnD P w K mg base [] k fa fd [p] d ∧ Binds K fd [p] [] := by
  obtain ⟨f, fd, F, h1, _, hb⟩ := c
  rw [hm] at h1
  cases h1
  exact ⟨fd, F, hb⟩
/-- the law -/
theorem law_walk {l : PySem.W.OpenLaw} {k : Nat} {q : Program} {loose : List Str} {XP : (Str → Option Value) → Heap → Prop} {YP : World → Heap → Prop} {d : DefRec} {dl : List PV → M PV} {x : Str}
    (hn : l.most = some 63) (hdf : d.params.defaults = []) (hr : Room k callerA)
    (F : ∀ (w : World) (mg : Str → Option Value) (h : Heap), YP w h → h.Ns mainGlobals mg → ∃ (K : PySem.W.Frag) (fa : Addr) (fd : FuncData), K.In h ∧ mg d.name = some (.ref fa) ∧ (∀ (s : Shared) (us : List Value), us.length = 1 → BindsTo s fd ⟨us, []⟩ ([x].zip us)) ∧
      ∀ base : Heap, FnD l.prog w K mg base [] k fa fd [x] dl)
    (ht : ∀ ns : List Int, ns.length ≤ 63 → (∀ z ∈ ns, Builtin.Int.intBits z ≤ 1048576) → ∃ st, dl [.scr (ns.map PV.int)] [] = .ok (.bl true) st) :
    PySem.W.WalkO q loose XP YP l.row.toRowW d [] (fun f vs => PySem.call f vs) := by
  refine Att.attach_callB hn hdf fun w s₀ s₁ mg mb fa o pm cd doc a vs ns G Y ho hd hcd hmg hobj hints hlen hbits hg => ?_
  obtain ⟨K, fa', fd, KX, hfa, hb, hF⟩ := F w mg _ Y G.T.g
  rw [hmg] at hfa
  cases hfa
  refine law_call KX G.T.g G.T.b G.T.builtins G.T.nolimit hg hobj hints (Nat.le_trans hlen (by decide)) hr (fun base _ _ => (hF base).ok) (fun s u => hb s [u] rfl) (fun H _ hS => ?_) fun H e s' ⟨_, _, _, _, _, _, _, _, _, _, _, _, h⟩ => h
  obtain ⟨st, e⟩ := ht ns hlen hbits
  refine ⟨⟨[], [], none⟩, [], _, [], ⟨rfl, rfl⟩, ⟨rfl, List.nodup_nil, (fun n o a h => by simp at h), (fun p hp => by cases hp), (fun a ha => by cases ha)⟩, .cons (.scr (xs := ns.map V.int) ?_ (rl_ints ns)) .nil, rfl, ?_⟩
  · rcases hS with h | h
    · exact .inl ⟨h, by simp, by simp⟩
    · exact .inr fun _ => .inr h
  · rw [e]
    intro ρ' H' _ _ v r
    cases r
    rfl
end DN
set_option Elab.async false
set_option linter.all false
set_option maxRecDepth 100000
set_option maxHeartbeats 4000000
/-! DnTry: try with several clauses, each with a name or without. -/
namespace DN
open PySem PySem.Spec PyProof.Rows L2
abbrev Hdl := Value × Option Nat × (Addr → Value → Option Addr → TS)
def endsO (D : Ends) : Option Nat → Ends
  | none => D
  | some i => { nx := fun σ H => D.nx (σ.set i none) H, rt := D.rt, bk := fun σ H => D.bk (σ.set i none) H, ct := fun σ H => D.ct (σ.set i none) H }
def setO (σ : St) (o : Option Nat) (a : Addr) : St := match o with
  | none => σ
  | some i => σ.set i (some (.ref a))
/-- what the clauses want of an exception of the body -/
def wAll (K : PySem.W.Frag) (Wout : WX) (D : Ends) : List Hdl → WX
  | [] => Wout
  | (c, o, ts) :: r => fun cls d σ H => ∃ b, PySem.W.exmOne K cls c = some b ∧ (b = true → ∀ a, H a = none → ts a cls d (endsO D o) (setO σ o a) H) ∧ (b = false → wAll K Wout D r cls d σ H)
inductive HdA (X : Cx) : List ExceptHandler → List Hdl → Prop
  | nil : HdA X [] []
  | plain {x : Str} {c : Value} {ts : Addr → Value → Option Addr → TS} {b₀ : Stmt} {suite : List Stmt} {np pos : Pos} {hds : List ExceptHandler} {l : List Hdl} (hc : Names X x c)
      (hsu : ∀ (a : Addr) (oe : Obj) (cls : Value) (d : Option Addr) (pn : List (Addr × Obj)), Zc cls d oe → (∃ vs, oe.data = .fields vs) → PSs (X.suite a ((a, oe) :: pn)) (b₀ :: suite) (ts a cls d)) (r : HdA X hds l) :
      HdA X (.ExceptHandler (some (.Name x np)) none (b₀ :: suite) pos :: hds) ((c, none, ts) :: l)
  | named {x n : Str} {i : Nat} {c : Value} {ts : Addr → Value → Option Addr → TS} {b₀ : Stmt} {suite : List Stmt} {np pos : Pos} {hds : List ExceptHandler} {l : List Hdl} (hi : X.N[i]? = some n) (hln : X.env.kindOf n = some .local) (hc : Names X x c)
      (hsu : ∀ (a : Addr) (oe : Obj) (cls : Value) (d : Option Addr) (pn : List (Addr × Obj)), Zc cls d oe → (∃ vs, oe.data = .fields vs) → PSs (X.suite a ((a, oe) :: pn)) (b₀ :: suite) (ts a cls d)) (r : HdA X hds l) :
      HdA X (.ExceptHandler (some (.Name x np)) (some n) (b₀ :: suite) pos :: hds) ((c, some i, ts) :: l)
section
variable {X : Cx} {body : List Stmt} {h₀ : ExceptHandler} {hds : List ExceptHandler} {l : List Hdl} {pos : Pos} {tb : WX → TS} {Wout : WX}
/-- an exception that no clause takes goes on -/
theorem try_on {pins : List (Addr × Obj)} {D : Ends} {s' : Shared} {a : Addr} {B h3 : Heap} {sI : Shared} {σ' : St} {H' : Hp} {cls : Value} {d : Option Addr} (hs : X.stack = X.env :: X.outer) (hf : X.env.frame = some X.env.locals) (tk : Takes X Wout) (J : Inv X pins σ' H' sI)
    (nb : ∀ b o, sI.heap.get? b = some o → b ∉ frs X.stack → B.get? b = some o) (up : sI.heap.UpToSlots h3) (fl3 : HandSPX.FlyingZ B (X.env :: X.outer) a (Zc cls d) h3) (na : H' a = none) (os : s'.os = sI.os) (ag : AllBare s'.gens) (w : Wout cls d σ' H') :
    wpAny (model X.prog X.w) X.A (handleBy (.ref a) X.env []) (SP X pins D) X.xe { s' with heap := h3 } := by
  refine wpAny_handleBy_nil ?_
  obtain ⟨_, _, _, oe, vs, T, _, _, he, _, hd, h1, _⟩ := id fl3
  unfold PySem.passOn
  refine wpAny_bind (wpAny_field he hd h1 ?_)
  rw [if_neg (show ¬ (Value.ref T == Value.none) = true by simp)]
  have fin : wpAny (model X.prog X.w) X.A (setFlight (.ref a) X.env.frame) (fun _ s4 => wpAny (model X.prog X.w) X.A (throw (.ref a) : Sem Flow) (SP X pins D) X.xe s4) X.xe { s' with heap := h3 } := by
    rw [hf]
    exact HandSPX.setFlight_upZ fl3 fun h4 hh4 up4 => wpAny_throw (tk _ _ ⟨a, B, sI, pins, σ', H', cls, d, rfl, J, nb, up.trans up4, .inr (.inr (by rw [hs]; exact hh4)), na, os, ag, w⟩)
  first
    | exact wpAny_bind (wpAny_pure (wpAny_bind fin))
    | exact wpAny_bind fin
theorem ps_try_all (hs : X.stack = X.env :: X.outer) (hf : X.env.frame = some X.env.locals) (hN : X.N.Nodup) (tk : Takes X Wout)
    (hb : ∀ (W : WX) (pn : List (Addr × Obj)) (xe : Value → Shared → Prop), Takes (X.tr pn xe) W → PassesOwn (model X.prog X.w) X.A X.env xe → PSs (X.tr pn xe) body (tb W))
    (hh : HdA X (h₀ :: hds) l) : PS X (.Try body (h₀ :: hds) [] [] pos) (fun D σ H => tb (wAll X.K Wout D l) D σ H) := by
  refine ⟨fun pins s σ H D I h => ?_⟩
  have ok := I.ok
  have frE : X.A.frames = some (X.env :: X.outer) := by rw [ok.frames, hs]
  refine wpAny_Try_except ?_
  refine wpAny_mono ((hb (wAll X.K Wout D l) (X.pn ++ pins) (fun e s₁ => wpAny (model X.prog X.w) X.A (noteFrame e X.env) (fun _ s₂ => wpAny (model X.prog X.w) X.A (setFlight e none) (fun _ s₃ => wpAny (model X.prog X.w) X.A (handleBy e X.env (h₀ :: hds)) (SP X pins D) X.xe s₃) X.xe s₂) X.xe s₁)
    (fun u s' xx => ?_) PassesOwn.looking).run [] s σ H D (I.toTry _) h) (fun f s1 hsp => ?_) (fun _ _ he => he)
  · obtain ⟨a, B, sI, pins', σ', H', cls, d, rfl, J', nb, up, sky, na, os, ag, w⟩ := xx
    have J : Inv X pins σ' H' sI := J'.ofTry ok
    have skyE : Sky B (X.env :: X.outer) a (Zc cls d) X.env.locals s'.heap := by rw [← hs]; exact sky
    show wpAny (model X.prog X.w) X.A (noteFrame (.ref a) X.env) _ _ _
    refine Sky.land Zc.steady frE hf skyE fun h3 fl3 up3 => ?_
    have J3 : Inv X pins σ' H' { s' with heap := h3 } := J.landed nb fl3.1 (up.trans up3) os ag
    obtain ⟨oe3, vs3, he3, hz3, hd3⟩ := fl3.there
    have apart : a ∉ frs (X.env :: X.outer) := fun hm => by
      obtain ⟨_, o', e', hnf⟩ := fl3.2.2.1.mem hm
      rw [he3] at e'
      cases e'
      exact hnf _ hd3
    have nL : a ≠ X.env.locals := fun z => apart (List.mem_filterMap.mpr ⟨X.env, List.mem_cons_self, by rw [hf, z]⟩)
    have nF : a ∉ X.fs := fun hm => by
      obtain ⟨e, he, q⟩ := List.mem_filterMap.mp hm
      exact apart (List.mem_filterMap.mpr ⟨e, List.mem_cons_of_mem _ he, q⟩)
    have S3 := J3.suite he3 hd3 na nL nF
    have test : ∀ {x : Str} {np : Pos} {c : Value} {Q E : Value → Shared → Prop}, Names X x c → Q c { s' with heap := h3 } → wpAny (model X.prog X.w) (X.A.mark (some (.ref a))) (eval (.Name x np) X.env) Q E { s' with heap := h3 } := fun {x np c Q E} hc q => by
      obtain ⟨hg, hdbg, hm | ⟨hm, hv, hnn⟩⟩ := hc
      · exact ld_glob (X := X.suite a ((a, oe3) :: (X.pn ++ pins))) S3 hg hm q hdbg
      · exact ld_blt (X := X.suite a ((a, oe3) :: (X.pn ++ pins))) S3 hg hm hv q hnn hdbg
    have LT : PySem.W.Looks (model X.prog X.w) h3 (typeOf (.ref a)) cls := fun A Q E s k q => wpAny_typeOf_ref (k _ _ he3) (by rw [hz3.1]; exact q)
    have go : ∀ {hs2 : List ExceptHandler} {l2 : List Hdl}, HdA X hs2 l2 → wAll X.K Wout D l2 cls d σ' H' → wpAny (model X.prog X.w) X.A (handleBy (.ref a) X.env hs2) (SP X pins D) X.xe { s' with heap := h3 } := by
      intro hs2 l2 hk
      induction hk with
      | nil => exact fun w => try_on hs hf tk J nb (up.trans up3) fl3 na os ag w
      | @plain x c ts b₀ suite np pos' hds2 l2 hc hsu r ih =>
        intro w
        obtain ⟨b, hb1, hyes, hno⟩ := w
        refine wpAny_handleBy_cons (codeAny_handlers_test (test hc ((PySem.W.exm_one (M := model X.prog X.w) J3.kIn LT hb1).here ?_))) (by intro q; cases q)
        cases b with
        | true =>
          refine codeAny_handlers_suite (HandSPX.lands_againZ fl3 fun h4 fl4 up4 => ?_)
          have J4 : Inv X pins σ' H' { s' with heap := h4 } := J.landed nb fl4.1 ((up.trans up3).trans up4) os ag
          obtain ⟨oe4, vs4, he4, hz4, hd4⟩ := fl4.there
          refine wpAny_mono ((hsu a oe4 cls d (X.pn ++ pins) hz4 ⟨_, hd4⟩).run [] _ _ H' _ (J4.suite he4 hd4 na nL nF) (hyes rfl a na)) (fun f s6 hsp => ?_) (fun _ _ z => z.elim)
          cases f with
          | next => obtain ⟨σ6, H6, S6, q6⟩ := hsp; exact ⟨_, _, S6.unsuite ok, q6⟩
          | brk => obtain ⟨σ6, H6, S6, q6⟩ := hsp; exact ⟨_, _, S6.unsuite ok, q6⟩
          | cont => obtain ⟨σ6, H6, S6, q6⟩ := hsp; exact ⟨_, _, S6.unsuite ok, q6⟩
          | ret u => obtain ⟨v6, σ6, H6, S6, r6, q6⟩ := hsp; exact ⟨_, _, _, S6.unsuite ok, r6, q6⟩
        | false =>
          show wpAny _ X.A (handleBy (.ref a) X.env hds2) _ _ _
          exact ih (hno rfl)
      | @named x n i c ts b₀ suite np pos' hds2 l2 hi hln hc hsu r ih =>
        intro w
        obtain ⟨b, hb1, hyes, hno⟩ := w
        refine wpAny_handleBy_cons (codeAny_handlers_test (test hc ((PySem.W.exm_one (M := model X.prog X.w) J3.kIn LT hb1).here ?_))) (by intro q; cases q)
        cases b with
        | true =>
          refine codeAny_handlers_suite_as (HandSPX.lands_againZ fl3 fun h4 fl4 up4 => ?_)
          have J4 : Inv X pins σ' H' { s' with heap := h4 } := J.landed nb fl4.1 ((up.trans up3).trans up4) os ag
          obtain ⟨oe4, vs4, he4, hz4, hd4⟩ := fl4.there
          refine store_ok (X := X.suite a ((a, oe4) :: (X.pn ++ pins))) (v := .ref a) (J4.suite he4 hd4 na nL nF) hN hi (.inl hln) rfl (fun s5 S5 => ?_) (.inr hln)
          refine wpAny_mono ((hsu a oe4 cls d (X.pn ++ pins) hz4 ⟨_, hd4⟩).run [] s5 _ H' _ S5 (hyes rfl a na)) (fun f s6 hsp => ?_) (fun _ _ z => z.elim)
          have gone : ∀ {σ6 : St} {H6 : Hp} {Q : Shared → Prop}, Inv (X.suite a ((a, oe4) :: (X.pn ++ pins))) [] σ6 H6 s6 → (∀ s7, Inv X pins (σ6.set i none) H6 s7 → Q s7) → wpAny (model X.prog X.w) X.A (do bindName X.env n .none; unbindBehindTheSuite X.env n pos') (fun _ s7 => Q s7) X.xe s6 :=
            fun {σ6 H6 Q} S6 hq => gone_ok (S6.unsuite ok) hN hi hln hq
          cases f with
          | next => obtain ⟨σ6, H6, S6, q6⟩ := hsp; exact gone S6 fun s7 J7 => ⟨_, _, J7, q6⟩
          | brk => obtain ⟨σ6, H6, S6, q6⟩ := hsp; exact gone S6 fun s7 J7 => ⟨_, _, J7, q6⟩
          | cont => obtain ⟨σ6, H6, S6, q6⟩ := hsp; exact gone S6 fun s7 J7 => ⟨_, _, J7, q6⟩
          | ret u => obtain ⟨v6, σ6, H6, S6, r6, q6⟩ := hsp; exact gone S6 fun s7 J7 => ⟨_, _, _, J7, r6, q6⟩
        | false =>
          show wpAny _ X.A (handleBy (.ref a) X.env hds2) _ _ _
          exact ih (hno rfl)
    exact go hh w
  · cases f with
    | next => obtain ⟨σ', H', J', q⟩ := hsp; exact wpAny_execs_nil ⟨σ', H', J'.ofTry ok, q⟩
    | brk => obtain ⟨σ', H', J', q⟩ := hsp; exact ⟨σ', H', J'.ofTry ok, q⟩
    | cont => obtain ⟨σ', H', J', q⟩ := hsp; exact ⟨σ', H', J'.ofTry ok, q⟩
    | ret u => obtain ⟨v, σ', H', J', r, q⟩ := hsp; exact ⟨v, σ', H', J'.ofTry ok, r, q⟩
end
end DN
set_option Elab.async false
set_option linter.all false
set_option maxRecDepth 100000
set_option maxHeartbeats 4000000
/-! DnErr: what a suite reads of the exception that it handles. -/
namespace DN
open PySem PySem.Spec PyProof.Rows L2
/-- what an own exception class tells of its instances -/
structure ErrC (K : PySem.W.Frag) (C : Addr) : Prop where
  cl : (PySem.W.clsIn K C).isSome = true
  ga : PySem.W.findIn K (.ref C) "__getattribute__" = some (some (.builtin "BaseException.__getattribute__"))
  gg : PySem.W.findIn K (.ref C) "__getattr__" = some none
  ex : PySem.W.subIn K (.ref C) (.type "BaseException") = some true
  hd : PySem.W.hasDictIn K C = true
  wh : PySem.W.findIn K (.ref C) "what" = some none
  ca : PySem.W.findIn K (.ref C) "__class__" = some (some (.builtin "object.__class__"))
  cg : PySem.W.specialIn K (.builtin "object.__class__") "__get__" = some (some (.builtin "getset_descriptor.__get__"))
  ct : PySem.W.takesIn K (.builtin "object.__class__") = some true
  ob : PySem.W.mroIn K C (.type "object") = some true
/-- the context's exception -/
structure ErrX (Z : Cx) (T : TR) (a : Addr) (c : Str) (d C : Addr) (oe : Obj) : Prop where
  t : T.err = some (a, c, d)
  m : Z.mg c = some (.ref C)
  z : Zc (.ref C) (some d) oe
  f : ∃ vs, oe.data = .fields vs
  k : ErrC Z.K C
  p : (a, oe) ∈ Z.pn
def dWhat (f : DE) : DE := fun σ st => (f σ st).bind fun p st => match p with
  | .err _ w => .ok w st
  | _ => .fail
section
variable {Z : Cx} {T : TR} {E : XK} {a d C : Addr} {c : Str} {oe : Obj} {e : Expr} {f : DE} {pos : Pos}
theorem ev_what (R : ErrX Z T a c d C oe) (hf : EV Z T E e f) (hb : attributeBase e "what" Z.env (eval e Z.env) = eval e Z.env := by rfl) : EV Z T E (.Attribute e "what" pos) (dWhat f) := by
  refine ⟨fun pins s σ H Q I h => ?_⟩
  obtain ⟨ρ, aσ, st, hE, hS, h⟩ := h
  have q : Tv (gOf Z T) E f σ H fun v H1 => ∃ w, v = .ref a ∧ Rd H1 d (.xd [(("what" : Str), w)]) ∧ Q w H1 := by
    refine tv_bind hE hS h fun ρ1 H1 x v st1 e1 s1 _ r h1 => ?_
    cases r with
    | err h2 h3 h4 h5 =>
      rw [R.t] at h2
      cases h2
      exact ⟨_, rfl, h3, h1.ret s1 _ h5⟩
    | _ => exact False.elim h1
  refine attr_of hb (thn (hf.run pins s σ H _ I q) fun u s1 hh => ?_)
  obtain ⟨x, H1, I1, rx, w, ex, ed, q⟩ := hh
  subst ex
  obtain rfl : u = Value.ref a := rx
  obtain ⟨ha, _⟩ := I1.pin (a, oe) (List.mem_append_left _ R.p)
  obtain ⟨vs, hd⟩ := R.f
  have hx : ObjOk Z.prog Z.w H1 s1.heap d (.xd [(("what" : Str), w)]) := by
    rcases ed with ed | ⟨o, ed⟩
    · exact I1.hok d _ ed
    · exact (I1.hok d _ ed).2
  obtain ⟨mA, hns, hr⟩ := hx
  obtain ⟨od, ho, hl⟩ := lookIn_ns hns
  have l : List.lookup ("what" : Str) [(("what" : Str), w)] = some w := by simp [List.lookup]
  obtain ⟨u, hu, ru⟩ := RelO.some_of (v := w) (o := mA "what") (by rw [← l]; exact hr "what")
  have J : PySem.W.InstAt s1.heap a oe C (some od) := ⟨ha, R.z.1, by unfold PySem.W.notCls; rw [hd] <;> rfl, by rw [R.z.2]; exact ho⟩
  exact HandSPX.exc_get I1.kIn J R.k.ga R.k.gg R.k.ex (PySem.W.findObj_own R.k.hd R.k.wh rfl (by rw [hl, hu])) (handed_of ru) ⟨w, H1, I1.tok _, ru, q⟩
/-- what the program's own exception classes are to one another, and to ValueError -/
structure ClsT (K : PySem.W.Frag) (mg : Str → Option Value) (tbl : Str → Str → Option Bool) : Prop where
  own : ∀ c x b C D, tbl c x = some b → mg c = some (.ref C) → mg x = some (.ref D) → PySem.W.exmOne K (.ref C) (.ref D) = some b ∧ PySem.W.kitOne K (.ref C) (.ref D) = some b
  blt : ∀ c b C, tbl c ("ValueError" : Str) = some b → mg c = some (.ref C) → mg ("ValueError" : Str) = none → PySem.W.exmOne K (.ref C) (.type "ValueError") = some b ∧ PySem.W.kitOne K (.ref C) (.type "ValueError") = some b
  err : ∀ c x b C, tbl c x = some b → mg c = some (.ref C) → ErrC K C
def qIsE (tbl : Str → Str → Option Bool) (xs : List PV) : M PV := fun st => match xs with
  | [.err c _, .con x] => (match tbl c x with
    | some b => .ok (.bl b) st
    | none => .fail)
  | [.err c _, .ty "ValueError"] => (match tbl c ("ValueError" : Str) with
    | some b => .ok (.bl b) st
    | none => .fail)
  | _ => .fail
def rIsX (K : PySem.W.Frag) (C a d : Addr) : List V → Hp → VK → Prop := fun xs H Q => ∃ (c : V) (cv : Value) (b : Bool) (w : V), xs = [.ref a, c] ∧ (∀ u, RelV c u → u = cv) ∧ PySem.W.kitOne K (.ref C) cv = some b ∧ Rd H d (.xd [(("what" : Str), w)]) ∧ Q (.bl b) H
theorem call_isX (R : ErrX Z T a c d C oe) : CallR Z (.builtin "isinstance") (rIsX Z.K C a d) := by
  intro pins s σ H xs us Q I r h
  obtain ⟨c', cv, b, w, rfl, hcv, e, ed, q⟩ := h
  cases r with
  | cons rx rr =>
    cases rr with
    | cons rt rr =>
      cases rr
      cases rx
      have ec := hcv _ rt
      subst ec
      obtain ⟨hget, _⟩ := I.pin (a, oe) (List.mem_append_left _ R.p)
      obtain ⟨vs, hv⟩ := R.f
      have hdx := R.z.2
      have hx : ObjOk Z.prog Z.w H s.heap d (.xd [(("what" : Str), w)]) := by
        rcases ed with ed | ⟨o, ed⟩
        · exact I.hok d _ ed
        · exact (I.hok d _ ed).2
      obtain ⟨mA, hns, _⟩ := hx
      obtain ⟨od, hod, _⟩ := lookIn_ns hns
      have J : PySem.W.InstAt s.heap a oe C (some od) := ⟨hget, R.z.1, by unfold PySem.W.notCls; rw [hv] <;> rfl, by rw [hdx]; exact hod⟩
      exact PySem.W.kia_one (PySem.W.kitx_exc R.k.cl R.k.ga R.k.gg R.k.ex R.k.ca R.k.cg R.k.ct R.k.ob) I.kIn J e (fun z => nomatch z) fun tk => ⟨.bl b, H, I.kept (t' := tk) fun _ _ z => z, rfl, q⟩
theorem ad_isX {tbl : Str → Str → Option Bool} (R : ErrX Z T a c d C oe) (F : ClsT Z.K Z.mg tbl) (hv : Z.mg ("ValueError" : Str) = none) : AdqL (gOf Z T) E (rIsX Z.K C a d) (qIsE tbl) := fun ρ H st xs vs Q hS rs h => by
  unfold qIsE at h
  split at h
  · rename_i c' w x
    obtain ⟨v, u, rfl, r1, r2⟩ := all2 rs
    split at h
    · rename_i b e
      cases r1 with
      | err h2 h3 h4 h5 =>
        rw [R.t] at h2
        cases h2
        cases r2 with
        | con hm => exact ⟨_, _, b, _, rfl, fun u hu => hu, (F.own _ _ b _ _ e R.m hm).2, h3, post_val h hS (.bl b)⟩
    · exact h.elim
  · rename_i c' w
    obtain ⟨v, u, rfl, r1, r2⟩ := all2 rs
    split at h
    · rename_i b e
      cases r1 with
      | err h2 h3 h4 h5 =>
        rw [R.t] at h2
        cases h2
        cases r2
        exact ⟨_, .type "ValueError", b, _, rfl, fun u hu => hu, (F.blt _ b _ e R.m hv).2, h3, post_val h hS (.bl b)⟩
    · exact h.elim
  · exact h.elim
variable {es : List Expr} {fs : DA} {p : Pos}
theorem ev_isE {tbl : Str → Str → Option Bool} (R : ErrX Z T a c d C oe) (F : ClsT Z.K Z.mg tbl) (hv : Z.mg ("ValueError" : Str) = none) (hg : Gl Z "isinstance") (hm : Z.mg "isinstance" = none) (ha : EA Z T E (e :: es) fs) (hs : starEach (e :: es) Z.env = (false, eval e Z.env) :: starEach es Z.env := by rfl) (hpl : (backTo pos (starEach es Z.env)).any (·.1) = false := by rfl) : EV Z T E (.Call (.Name "isinstance" p) (e :: es) [] pos) (dAl (qIsE tbl) fs) :=
  ev_bi (call_isX R) (ad_isX R F hv) hg hm (by decide +kernel) ha (by decide) (by decide) hs hpl
end
end DN
set_option Elab.async false
set_option linter.all false
set_option maxRecDepth 100000
set_option maxHeartbeats 4000000
/-! DnTry2: what a try statement computes. -/
namespace DN
open PySem PySem.Spec PyProof.Rows L2
/-! ### no exception stands in it -/
mutual
def noE : PV → Bool
  | .err _ _ => false
  | .tup l => noEs l
  | .lst l => noEs l
  | .scr l => noEs l
  | .dK _ l => noEs l
  | .dT _ l => noEs l
  | .ref _ => true
  | .non => true
  | .bl _ => true
  | .int _ => true
  | .str _ => true
  | .con _ => true
  | .ty _ => true
def noEs : List PV → Bool
  | [] => true
  | p :: ps => noE p && noEs ps
end
def noO : SO → Bool
  | .lst l => noEs l
  | .dK es => noEs (es.map (·.2))
  | .dT es => noEs (es.map (·.2))
  | .ins _ fs => noEs (fs.map (·.2))
/-- T, the exception handled -/
abbrev TR.er (T : TR) (q : Addr × Str × Addr) : TR := ⟨T.tabs, T.res, some q⟩
section
variable {K : PySem.W.Frag} {mg : Str → Option Value} {T : TR} {ρ ρ' : List Addr} {H H' : Hp} {q : Addr × Str × Addr} {st st' : Store}
mutual
theorem noE_of (h0 : T.err = none) : ∀ {p : PV} {v : V}, Rl ⟨K, mg, T⟩ ρ H p v → noE p = true
  | _, _, .non => by simp only [noE]
  | _, _, .bl b => by simp only [noE]
  | _, _, .int i => by simp only [noE]
  | _, _, .str x => by simp only [noE]
  | _, _, .ty n => by simp only [noE]
  | _, _, .tup h r => by simp only [noE]; exact noEs_of h0 r
  | _, _, .lst h r => by simp only [noE]; exact noEs_of h0 r
  | _, _, .dK h n k r => by simp only [noE]; exact noEs_of h0 r
  | _, _, .dT h n k r => by simp only [noE]; exact noEs_of h0 r
  | _, _, .ref h => by simp only [noE]
  | _, _, .con h => by simp only [noE]
  | _, _, .scr h r => by simp only [noE]; exact noEs_of h0 r
  | _, _, .err h2 h n r => by rw [show T.err = _ from h2] at h0; cases h0
theorem noEs_of (h0 : T.err = none) : ∀ {ps : List PV} {vs : List V}, RlAll ⟨K, mg, T⟩ ρ H ps vs → noEs ps = true
  | _, _, .nil => by simp only [noEs]
  | _, _, .cons r t => by simp only [noEs, noE_of h0 r, noEs_of h0 t, Bool.and_self]
end
mutual
theorem Rl.unerr : ∀ {p : PV} {v : V}, noE p = true → Rl ⟨K, mg, T.er q⟩ ρ H p v → Rl ⟨K, mg, T⟩ ρ H p v
  | _, _, _, .non => .non
  | _, _, _, .bl b => .bl b
  | _, _, _, .int i => .int i
  | _, _, _, .str x => .str x
  | _, _, _, .ty n => .ty n
  | _, _, e, .tup h r => .tup h (RlAll.unerr (by simpa only [noE] using e) r)
  | _, _, e, .lst h r => .lst h (RlAll.unerr (by simpa only [noE] using e) r)
  | _, _, e, .dK h n k r => .dK h n k (RlAll.unerr (by simpa only [noE] using e) r)
  | _, _, e, .dT h n k r => .dT h n k (RlAll.unerr (by simpa only [noE] using e) r)
  | _, _, _, .ref h => .ref h
  | _, _, _, .con h => .con h
  | _, _, e, .scr h r => .scr h (RlAll.unerr (by simpa only [noE] using e) r)
  | _, _, e, .err h2 h n r => by simp only [noE] at e; cases e
theorem RlAll.unerr : ∀ {ps : List PV} {vs : List V}, noEs ps = true → RlAll ⟨K, mg, T.er q⟩ ρ H ps vs → RlAll ⟨K, mg, T⟩ ρ H ps vs
  | _, _, _, .nil => .nil
  | _, _, e, .cons r t => by
    simp only [noEs, Bool.and_eq_true] at e
    exact .cons (Rl.unerr e.1 r) (RlAll.unerr e.2 t)
end
theorem RlO.unerr {o : SO} {a : Addr} (e : noO o = true) (h : RlO ⟨K, mg, T.er q⟩ ρ H o a) : RlO ⟨K, mg, T⟩ ρ H o a := by
  cases h with
  | lst h r => exact .lst h (r.unerr e)
  | dK h x r => exact .dK h x (r.unerr e)
  | dT h x r => exact .dT h x (r.unerr e)
  | ins c h x r => exact .ins c h x (r.unerr e)
theorem noO_of (h0 : T.err = none) {o : SO} {a : Addr} (h : RlO ⟨K, mg, T⟩ ρ H o a) : noO o = true := by
  cases h with
  | lst h r => exact noEs_of h0 r
  | dK h x r => exact noEs_of h0 r
  | dT h x r => exact noEs_of h0 r
  | ins c h x r => exact noEs_of h0 r
theorem mv_er (h0 : T.err = none) : Mv T ρ H (T.er q) ρ H := ⟨List.prefix_refl _, fun _ _ r o _ => ⟨r, o⟩, fun _ _ _ h => h, fun _ h => by rw [h0] at h; cases h⟩
theorem rls_er (h0 : T.err = none) (h : RlS ⟨K, mg, T⟩ ρ H st) : RlS ⟨K, mg, T.er q⟩ ρ H st := ⟨h.len, h.nd, fun n o a h1 h2 => (h.at_ n o a h1 h2).mv (mv_er h0) (fun _ z => z), h.tabs, h.res⟩
/-- what the suite left, or made without the exception in it -/
def samE (st st' : Store) : Prop := ∀ (n : Nat) (o : SO), st'[n]? = some o → st[n]? = some o ∨ noO o = true
theorem rls_uner (h0 : T.err = none) (hS : RlS ⟨K, mg, T⟩ ρ H st) (s : samE st st') (h : RlS ⟨K, mg, T.er q⟩ ρ' H' st') : RlS ⟨K, mg, T⟩ ρ' H' st' := ⟨h.len, h.nd, fun n o a h1 h2 => (h.at_ n o a h1 h2).unerr (by
    rcases s n o h1 with z | z
    · have hn : n < ρ.length := by rw [hS.len]; exact (List.getElem?_eq_some_iff.mp z).1
      exact noO_of h0 (hS.at_ n o ρ[n] z (List.getElem?_eq_getElem hn))
    · exact z), h.tabs, h.res⟩
theorem ext_uner (x : Ext (T.er q) ρ H ρ' H') : Ext T ρ H ρ' H' := ⟨x.pre, x.keep, x.new, x.free, x.tups, x.rs⟩
theorem ext_er (x : Ext T ρ H ρ' H') : Ext (T.er q) ρ H ρ' H' := ⟨x.pre, x.keep, x.new, x.free, x.tups, x.rs⟩
end
/-! ### the reading -/
abbrev Cl1 := Str × Option Nat × DS
def nE (n : Nat) (o : Option Nat) (c : Str) (w : PV) : AE := match o with
  | none => List.replicate n none
  | some i => (List.replicate n none).set i (some (.err c w))
open Classical in
noncomputable def endH (n : Nat) (st : Store) (r : Res (Fl × AE)) : Res (Fl × AE) := match r with
  | .ok (.rt p, _) st' => if noE p = true ∧ samE st st' then .ok (.rt p, List.replicate n none) st' else .fail
  | .ok (.nx, aσ) st' => if samE st st' ∧ aσ.length = n then .ok (.nx, List.replicate n none) st' else .fail
  | .ok (.bk, aσ) st' => if samE st st' ∧ aσ.length = n then .ok (.bk, List.replicate n none) st' else .fail
  | .ok (.ct, aσ) st' => if samE st st' ∧ aσ.length = n then .ok (.ct, List.replicate n none) st' else .fail
  | _ => .fail
noncomputable def runH (tbl : Str → Str → Option Bool) (n : Nat) (c : Str) (w : PV) : List Cl1 → M (Fl × AE)
  | [] => fun st => .exc c w st
  | (x, o, g) :: r => fun st => match tbl c x with
    | some true => endH n st (g (nE n o c w) st)
    | some false => runH tbl n c w r st
    | none => .fail
noncomputable def sTry (tbl : Str → Str → Option Bool) (n : Nat) (f : DS) (l : List Cl1) : DS := fun σ st => match f σ st with
  | .ok r st' => .ok r st'
  | .exc c w st' => runH tbl n c w l st'
  | .fail => .fail
/-! ### the rule -/
inductive HdE (X : Cx) (T : TR) : List ExceptHandler → List Cl1 → Prop
  | nil : HdE X T [] []
  | plain {x : Str} {D : Addr} {g : DS} {b₀ : Stmt} {suite : List Stmt} {np pos : Pos} {hds : List ExceptHandler} {l : List Cl1} (hg : Gl X x) (hdb : (x == ("__debug__" : Str)) = false) (hm : X.mg x = some (.ref D))
      (hsu : ∀ (a : Addr) (oe : Obj) (c : Str) (d C : Addr) (pn : List (Addr × Obj)), ErrX (X.suite a ((a, oe) :: pn)) (T.er (a, c, d)) a c d C oe → ESs (X.suite a ((a, oe) :: pn)) (T.er (a, c, d)) E0' (b₀ :: suite) g) (r : HdE X T hds l) :
      HdE X T (.ExceptHandler (some (.Name x np)) none (b₀ :: suite) pos :: hds) ((x, none, g) :: l)
  | named {x n : Str} {i : Nat} {D : Addr} {g : DS} {b₀ : Stmt} {suite : List Stmt} {np pos : Pos} {hds : List ExceptHandler} {l : List Cl1} (hi : X.N[i]? = some n) (hln : X.env.kindOf n = some .local) (hg : Gl X x) (hdb : (x == ("__debug__" : Str)) = false) (hm : X.mg x = some (.ref D))
      (hsu : ∀ (a : Addr) (oe : Obj) (c : Str) (d C : Addr) (pn : List (Addr × Obj)), ErrX (X.suite a ((a, oe) :: pn)) (T.er (a, c, d)) a c d C oe → ESs (X.suite a ((a, oe) :: pn)) (T.er (a, c, d)) E0' (b₀ :: suite) g) (r : HdE X T hds l) :
      HdE X T (.ExceptHandler (some (.Name x np)) (some n) (b₀ :: suite) pos :: hds) ((x, some i, g) :: l)
section
variable {X : Cx} {T : TR} {E : XK} {tbl : Str → Str → Option Bool}
/-- the suite's reading -/
def tsE (X : Cx) (T : TR) (g : DS) : Addr → Value → Option Addr → TS := fun a cls d Dd σ H => ∃ (c : Str) (C dd : Addr), cls = .ref C ∧ d = some dd ∧ X.mg c = some (.ref C) ∧ ErrC X.K C ∧ Ts (gOf X (T.er (a, c, dd))) E0' g Dd σ H
theorem tsE_ok {a : Addr} {oe : Obj} {cls : Value} {d : Option Addr} {pn : List (Addr × Obj)} {g : DS} {ss : List Stmt} (z : Zc cls d oe) (f : ∃ vs, oe.data = .fields vs)
    (hsu : ∀ (a : Addr) (oe : Obj) (c : Str) (d C : Addr) (pn : List (Addr × Obj)), ErrX (X.suite a ((a, oe) :: pn)) (T.er (a, c, d)) a c d C oe → ESs (X.suite a ((a, oe) :: pn)) (T.er (a, c, d)) E0' ss g) : PSs (X.suite a ((a, oe) :: pn)) ss (tsE X T g a cls d) := by
  refine ⟨fun pins s σ H D I h => ?_⟩
  obtain ⟨c, C, dd, rfl, rfl, hm, k, h⟩ := h
  exact (hsu a oe c dd C pn ⟨rfl, hm, z, f, k, List.mem_cons_self⟩).run pins s σ H D I h
inductive LkE (X : Cx) (T : TR) : List Hdl → List Cl1 → Prop
  | nil : LkE X T [] []
  | cons {x : Str} {D : Addr} {o : Option Nat} {g : DS} {l' : List Hdl} {l : List Cl1} (hm : X.mg x = some (.ref D)) (r : LkE X T l' l) : LkE X T ((.ref D, o, tsE X T g) :: l') ((x, o, g) :: l)
theorem hdA_of : ∀ {hds : List ExceptHandler} {l : List Cl1}, HdE X T hds l → ∃ l' : List Hdl, HdA X hds l' ∧ LkE X T l' l
  | _, _, .nil => ⟨[], .nil, .nil⟩
  | _, _, .plain hg hdb hm hsu r => by
    obtain ⟨l', h, e⟩ := hdA_of r
    exact ⟨_, .plain (ts := tsE X T _) ⟨hg, hdb, .inl hm⟩ (fun a oe cls d pn z f => tsE_ok z f hsu) h, .cons hm e⟩
  | _, _, .named hi hln hg hdb hm hsu r => by
    obtain ⟨l', h, e⟩ := hdA_of r
    exact ⟨_, .named (ts := tsE X T _) hi hln ⟨hg, hdb, .inl hm⟩ (fun a oe cls d pn z f => tsE_ok z f hsu) h, .cons hm e⟩
theorem rlE_none {G : DG} {ρ : List Addr} {H : Hp} {σ : St} {n : Nat} (h : σ.length = n) : RlE G ρ H (List.replicate n none) σ := ⟨by simp [h], fun i p e => by
  rw [List.getElem?_replicate] at e
  split at e <;> cases e⟩
theorem endH_post {ρ : List Addr} {H : Hp} {n : Nat} {st : Store} {r : Res (Fl × AE)} {D : Ends} {q : Addr × Str × Addr} {o : Option Nat} (h0 : T.err = none) (hS : RlS (gOf X T) ρ H st) (h : Pst (gOf X T) E ρ H (KS (gOf X T) D) (endH n st r)) : Pst (gOf X (T.er q)) E0' ρ H (KS (gOf X (T.er q)) (endsO D o)) r := by
  cases r with
  | ok r st' =>
    obtain ⟨fl, aσ⟩ := r
    have go : ∀ {fl' : Fl}, (∀ ρ' H', Ext T ρ H ρ' H' → RlS (gOf X T) ρ' H' st' → ∀ σ, σ.length = n → KF (gOf X T) D ρ' H' σ fl') → samE st st' → ∀ ρ' H', Ext (T.er q) ρ H ρ' H' → RlS (gOf X (T.er q)) ρ' H' st' → ∀ σ, σ.length = n → KF (gOf X T) D ρ' H' σ fl' :=
      fun k sm ρ' H' x s σ hl => k ρ' H' (ext_uner x) (rls_uner h0 hS sm s) σ hl
    have lo : ∀ σ : St, σ.length = n → (match o with | none => σ | some i => σ.set i none).length = n := fun σ hl => by cases o <;> simp [hl]
    cases fl with
    | rt p =>
      unfold endH at h
      dsimp only at h
      split at h
      · rename_i hc
        intro ρ' H' x s σ hE v r
        have := go (fl' := .rt p) (fun ρ' H' x s σ hl => h ρ' H' x s σ (rlE_none hl)) hc.2 ρ' H' x s (List.replicate n none) (by simp) v (r.unerr hc.1)
        cases o <;> exact this
      · exact h.elim
    | nx =>
      unfold endH at h
      dsimp only at h
      split at h
      · rename_i hc
        intro ρ' H' x s σ hE
        have hl : σ.length = n := by rw [← hE.len]; exact hc.2
        have := go (fl' := .nx) (fun ρ' H' x s σ hl => h ρ' H' x s σ (rlE_none hl)) hc.1 ρ' H' x s _ (lo σ hl)
        cases o <;> exact this
      · exact h.elim
    | bk =>
      unfold endH at h
      dsimp only at h
      split at h
      · rename_i hc
        intro ρ' H' x s σ hE
        have hl : σ.length = n := by rw [← hE.len]; exact hc.2
        have := go (fl' := .bk) (fun ρ' H' x s σ hl => h ρ' H' x s σ (rlE_none hl)) hc.1 ρ' H' x s _ (lo σ hl)
        cases o <;> exact this
      · exact h.elim
    | ct =>
      unfold endH at h
      dsimp only at h
      split at h
      · rename_i hc
        intro ρ' H' x s σ hE
        have hl : σ.length = n := by rw [← hE.len]; exact hc.2
        have := go (fl' := .ct) (fun ρ' H' x s σ hl => h ρ' H' x s σ (rlE_none hl)) hc.1 ρ' H' x s _ (lo σ hl)
        cases o <;> exact this
      · exact h.elim
  | exc c w st' => exact False.elim h
  | fail => exact False.elim h
/-- what the clauses want, from what they compute -/
theorem wall_of {n : Nat} {c : Str} {w : PV} {D : Ends} (h0 : T.err = none) (F : ClsT X.K X.mg tbl) : ∀ {l' : List Hdl} {l : List Cl1}, LkE X T l' l → ∀ {st : Store} {ρ : List Addr} {H : Hp} {ca d : Addr} {v : V}, Pst (gOf X T) E ρ H (KS (gOf X T) D) (runH tbl n c w l st) → RlS (gOf X T) ρ H st → X.mg c = some (.ref ca) → H d = some (Xd v) → Out T ρ d → Rl (gOf X T) ρ H w v →
    ∀ σ : St, σ.length = n → wAll X.K (fun cls d _ H => E cls d H) D l' (.ref ca) (some d) σ H
  | _, _, .nil, st, ρ, H, ca, d, v, h, hS, hc, hd, ho, r, σ, hl => h ρ H ca d v Ext.refl hS hc hd ho r
  | _, _, .cons (x := x) (D := Da) (o := o) (g := g) hm lk, st, ρ, H, ca, d, v, h, hS, hc, hd, ho, r, σ, hl => by
    unfold runH at h
    cases e : tbl c x with
    | none => rw [e] at h; exact h.elim
    | some b =>
      rw [e] at h
      refine ⟨b, (F.own c x b ca Da e hc hm).1, fun hb a ha => ?_, fun hb => ?_⟩
      · subst hb
        refine ⟨c, ca, d, rfl, rfl, hc, F.err c x true ca e hc, ρ, nE n o c w, st, ?_, rls_er h0 hS, ?_⟩
        · have rw' : Rl (gOf X (T.er (a, c, d))) ρ H w v := Rl.mv (mv_er h0) r
          have re : Rl (gOf X (T.er (a, c, d))) ρ H (.err c w) (.ref a) := .err rfl (.inl hd) ho rw'
          cases o with
          | none => exact rlE_none hl
          | some i => exact RlE.set (rlE_none hl) re
        · exact endH_post h0 hS h
      · subst hb
        exact wall_of h0 F lk h hS hc hd ho r σ hl
theorem takes_len {W : WX} {E' : XK} (tk : Takes X W) (h : ∀ cls d (σ : St) H, σ.length = X.N.length → E' cls d H → W cls d σ H) : Takes X fun cls d _ H => E' cls d H := fun u s' ⟨a, B, sI, pins, σ, H, cls, d, e, I, nb, up, sky, na, os, ag, w⟩ =>
  tk u s' ⟨a, B, sI, pins, σ, H, cls, d, e, I, nb, up, sky, na, os, ag, h cls d σ H I.len w⟩
theorem es_try {body : List Stmt} {h₀ : ExceptHandler} {hds : List ExceptHandler} {l : List Cl1} {pos : Pos} {f : DS} (h0 : T.err = none) (F : ClsT X.K X.mg tbl) (hs : X.stack = X.env :: X.outer) (hf : X.env.frame = some X.env.locals) (hN : X.N.Nodup) (tk : Takes X fun cls d _ H => E cls d H)
    (hb : ∀ (E' : XK) (pn : List (Addr × Obj)) (xe : Value → Shared → Prop), Takes (X.tr pn xe) (fun cls d _ H => E' cls d H) → PassesOwn (model X.prog X.w) X.A X.env xe → ESs (X.tr pn xe) T E' body f)
    (hh : HdE X T (h₀ :: hds) l) : ES X T E (.Try body (h₀ :: hds) [] [] pos) (sTry tbl X.N.length f l) := by
  obtain ⟨l', ha, lk⟩ := hdA_of hh
  refine ps_imp (ps_try_all (tb := fun W D σ H => ∃ E' : XK, (∀ cls d (σ' : St) H', σ'.length = X.N.length → E' cls d H' → W cls d σ' H') ∧ Ts (gOf X T) E' f D σ H) hs hf hN tk (fun W pn xe tk' po => ?_) ha) fun D σ H q => ?_
  · refine ⟨fun pins s σ H D I ⟨E', hE, h⟩ => ?_⟩
    exact (hb E' pn xe (takes_len tk' hE) po).run pins s σ H D I h
  · obtain ⟨ρ, aσ, st, hE, hS, h⟩ := q
    refine ⟨fun cls d H' => ∀ σ' : St, σ'.length = X.N.length → wAll X.K (fun cls d _ H => E cls d H) D l' cls d σ' H', fun cls d σ' H' hl w => w σ' hl, ρ, aσ, st, hE, hS, ?_⟩
    unfold sTry at h
    cases e : f aσ st with
    | ok r st' => rw [e] at h; exact h
    | exc c w st' =>
      rw [e] at h
      intro ρ' H' ca d v x s hc hd ho r σ' hl
      exact wall_of h0 F lk (h.base x) s hc hd ho r σ' hl
    | fail => rw [e] at h; exact h.elim
end
end DN
set_option Elab.async false
set_option linter.all false
set_option maxRecDepth 100000
set_option maxHeartbeats 4000000
/-! DnLam: a lambda without parameters handed to a def that calls it within a try statement. -/
namespace DN
open PySem PySem.Spec PyProof.Rows L2
section
variable {G : DG} {ρ : List Addr} {H H1 : Hp} {st : Store}
theorem rlo_some {o : SO} {a : Addr} (h : RlO G ρ H o a) : ∃ w, H a = some w ∧ ∀ ps, w ≠ .tbl ps := by
  cases h with
  | lst h _ => exact ⟨_, h, fun _ z => by cases z⟩
  | dK h _ _ => exact ⟨_, h, fun _ z => by cases z⟩
  | dT h _ _ => exact ⟨_, h, fun _ z => by cases z⟩
  | ins _ h _ _ => exact ⟨_, h, fun _ z => by cases z⟩
/-- the making of a lambda: tables grow, all else stays -/
theorem lam_ext (e : LamX.ExtN H H1) : Ext G.T ρ H ρ H1 := by
  have nt : ∀ a, NT H1 a → NT H a := fun a z => by
    cases q : H a with
    | none => exact .inl q
    | some u =>
      refine Classical.byContradiction fun hn => ?_
      have t : ∀ ps, u ≠ .tbl ps := fun ps e => hn (.inr ⟨ps, by rw [q, e]⟩)
      have h1 := e a u q t
      exact nt_some h1 t z
  refine ⟨List.prefix_refl _, fun a u r _ t => ?_, fun a h => .inl h, nt, fun a u t h => e a u h (fun ps z => by subst z; exact t), fun a _ hn => ?_⟩
  · rcases r with r | ⟨o, r⟩
    · exact .inl (e a u r t)
    · exact .inr ⟨o, e a _ r (fun ps z => by cases z)⟩
  · cases q : H a with
    | none => exact (hn (.inl q)).elim
    | some u => exact e a u q fun ps z => hn (.inr ⟨ps, by rw [q, z]⟩)
theorem lam_rls (e : LamX.ExtN H H1) (t : LamX.Tabs G.T.tabs H1) (hS : RlS G ρ H st) : RlS G ρ H1 st := by
  refine ⟨hS.len, hS.nd, fun n o a h1 h2 => ?_, t, fun a ha => ?_⟩
  · have r := hS.at_ n o a h1 h2
    obtain ⟨w, hw, tw⟩ := rlo_some r
    exact r.ext (lam_ext e) fun u hu => by
      rw [hw] at hu
      cases hu
      exact e a w hw tw
  · have z := hS.res a ha
    refine ⟨fun n => z.1 ((lam_ext (G := G) (ρ := ρ) e).free a n), z.2⟩
end
/-! ### x(lambda: e), def x(a): try: return ('told', a()) except .. -/
noncomputable def dHeard (tbl : Str → Str → Option Bool) (n : Nat) (told : Str) (l : List Cl1) (f : DE) : DE := fun σ st => match f σ st with
  | .ok v st' => mTup [.str told, v] st'
  | .exc c w st' => (match runH tbl n c w l st' with
    | .ok (.rt p, _) st2 => .ok p st2
    | .ok (.nx, _) st2 => .ok .non st2
    | _ => .fail)
  | .fail => .fail
abbrev endQ (Q : VK) : Ends := { nx := fun _ H' => Q .non H', rt := Q }
/-- what the def makes of the lambda -/
def TTh (K : PySem.W.Frag) (n : Nat) (told : Str) (l' : List Hdl) : (XK → Hp → VK → Prop) → Hp → VK → Prop := fun tl H Q => ∃ E' : XK, (∀ cls d (σ' : St) H', σ'.length = n → E' cls d H' → wAll K (fun cls d _ H => E0' cls d H) (endQ Q) l' cls d σ' H') ∧
  tl E' H fun v H1 => tTupF (fun _ H2 K2 => K2 [.str told, v] H2) [] H1 Q
section
variable {X : Cx} {T : TR} {E : XK} {tbl : Str → Str → Option Bool}
theorem heard_gives {Ng : List Str} {x a q told : Str} {sg : Scope} {g : Addr} {cdg : Value} {j : Nat} {cx : Nat} {h₀ : ExceptHandler} {hds : List ExceptHandler} {l' : List Hdl} {p1 p2 p3 p4 p5 p8 : Pos} (hN : Ng.Nodup) (h0 : ∀ f : Addr, (L2.start Ng [V.ref f])[0]? = some (some (V.ref f)))
    (ha : ∀ (s : Shared) (H : Hp), HdA (cxOf C8.CX0 X.prog X.w X.K X.mg X.base Ng x sg g cdg X.A X.stack s H C8.E0).nox (h₀ :: hds) l') :
    LamX.GivesTo X Ng x sg g cdg [.Try [.Return (some (.Tuple [.Constant (.str told) j p3, .Call (.Name a p1) [] [] p2] cx p4)) p5] (h₀ :: hds) [] [] p8] a q (TTh X.K Ng.length told l') := by
  intro f c' s H Q tl act hc h
  let Z := (cxOf C8.CX0 X.prog X.w X.K X.mg X.base Ng x sg g cdg X.A X.stack s H C8.E0).nox
  refine ⟨_, pss_one (ps_try_all (X := Z) (Wout := fun cls d _ H => E0' cls d H) (tb := fun W D σ H => ∃ E' : XK, (∀ cls d (σ' : St) H', σ'.length = Ng.length → E' cls d H' → W cls d σ' H') ∧ σ[0]? = some (some (.ref f)) ∧ H c' = some (LamX.CodeO c' q) ∧ tl E' H fun v H1 => tTupF (fun _ H2 K2 => K2 [.str told, v] H2) [] H1 D.rt)
    rfl rfl hN LamX.takes0 (fun W pn xe tk _ => ?_) (ha s H)), ?_⟩
  · refine ⟨fun pins s' σ H' D I h' => ?_⟩
    obtain ⟨E', hW, h1, h2, h3⟩ := h'
    have tk' := takes_len (X := Z.tr pn xe) tk hW
    have hp := act (fun cls d _ H => E' cls d H) pn xe E' p1 p2 tk' fun _ _ _ _ h => h
    have hq := pss_one (ps_ret (pos := p5) (pe_tupF (pos := p4) (x1 := cx) (pa_cons (pe_str (x := told) (j := j) (pos := p3)) (pa_cons hp pa_nil rfl) rfl)))
    exact hq.run pins s' σ H' D I ⟨h1, h2, h3⟩
  · obtain ⟨E', hE, ht⟩ := h
    exact ⟨E', hE, h0 f, hc, ht⟩
/-- from what the call of the lambda computes -/
theorem heard_read {σ : St} {H : Hp} {Q : VK} {n : Nat} {told : Str} {l' : List Hdl} {l : List Cl1} {f : DE} (h0 : T.err = none) (F : ClsT X.K X.mg tbl) (lk : LkE X T l' l) (h : Tv (gOf X T) E (dHeard tbl n told l f) σ H Q) :
    LamX.tLam T.tabs (TTh X.K n told l') (fun E' => Tv (gOf X T) E' f) σ H Q := by
  obtain ⟨ρ, aσ, st, hE, hS, h⟩ := h
  refine ⟨hS.tabs, fun H1 e t1 => ⟨fun cls d H' => ∀ σ' : St, σ'.length = n → wAll X.K (fun cls d _ H => E0' cls d H) (endQ Q) l' cls d σ' H', fun cls d σ' H' hl w => w σ' hl, ρ, aσ, st, hE.ext (G := gOf X T) (lam_ext e), lam_rls (G := gOf X T) e t1 hS, ?_⟩⟩
  have h := Pst.base (G := gOf X T) (lam_ext e) h
  unfold dHeard at h
  cases q : f aσ st with
  | ok v st' =>
    rw [q] at h
    intro ρ' H' x s u r
    have h : Pst (gOf X T) E ρ' H' (KV (gOf X T) Q) (mTup [.str told, v] st') := Pst.base (G := gOf X T) x h
    unfold mTup at h
    by_cases hz : ([PV.str told, v] : List PV).length ≤ SZ
    · rw [if_pos hz] at h
      exact ⟨by rw [SZ_eq]; exact hz, post_tup h s (.cons (.str _) (.cons r .nil))⟩
    · rw [if_neg hz] at h; exact h.elim
  | exc c w st' =>
    rw [q] at h
    intro ρ' H' ca d v x s hc hd ho r σ' hl
    have h : Pst (gOf X T) E ρ' H' (KV (gOf X T) Q) (match runH tbl n c w l st' with
      | .ok (.rt p, _) st2 => .ok p st2
      | .ok (.nx, _) st2 => .ok .non st2
      | _ => .fail) := Pst.base (G := gOf X T) x h
    refine wall_of (E := E0') h0 F lk (n := n) (c := c) (w := w) (st := st') ?_ s hc hd ho r σ' hl
    cases z : runH tbl n c w l st' with
    | ok rr st2 =>
      rw [z] at h
      obtain ⟨fl, a2⟩ := rr
      cases fl with
      | rt p => exact fun ρ2 H2 x2 s2 σ2 _ u ru => h ρ2 H2 x2 s2 u ru
      | nx => exact fun ρ2 H2 x2 s2 σ2 _ => h ρ2 H2 x2 s2 _ .non
      | bk => exact h.elim
      | ct => exact h.elim
    | exc _ _ _ => rw [z] at h; exact h.elim
    | fail => rw [z] at h; exact h.elim
  | fail => rw [q] at h; exact h.elim
/-- the clauses, by what the module's names hold -/
def lkF (X : Cx) (T : TR) (l : List Cl1) : List Hdl := l.map fun c => ((X.mg c.1).getD .none, c.2.1, tsE X T c.2.2)
theorem lkF_ok : ∀ {hds : List ExceptHandler} {l : List Cl1}, HdE X T hds l → HdA X hds (lkF X T l) ∧ LkE X T (lkF X T l) l
  | _, _, .nil => ⟨.nil, .nil⟩
  | _, _, .plain (x := x) (D := D) hg hdb hm hsu r => by
    obtain ⟨h, e⟩ := lkF_ok r
    have z : (X.mg x).getD .none = .ref D := by rw [hm]; rfl
    refine ⟨?_, ?_⟩
    · show HdA X _ (((X.mg x).getD .none, none, tsE X T _) :: lkF X T _)
      rw [z]
      exact .plain (ts := tsE X T _) ⟨hg, hdb, .inl hm⟩ (fun a oe cls d pn z f => tsE_ok z f hsu) h
    · show LkE X T (((X.mg x).getD .none, none, tsE X T _) :: lkF X T _) _
      rw [z]
      exact .cons hm e
  | _, _, .named (x := x) (D := D) hi hln hg hdb hm hsu r => by
    obtain ⟨h, e⟩ := lkF_ok r
    have z : (X.mg x).getD .none = .ref D := by rw [hm]; rfl
    refine ⟨?_, ?_⟩
    · show HdA X _ (((X.mg x).getD .none, some _, tsE X T _) :: lkF X T _)
      rw [z]
      exact .named (ts := tsE X T _) hi hln ⟨hg, hdb, .inl hm⟩ (fun a oe cls d pn z f => tsE_ok z f hsu) h
    · show LkE X T (((X.mg x).getD .none, some _, tsE X T _) :: lkF X T _) _
      rw [z]
      exact .cons hm e
theorem ev_heard {x a told : Str} {g c P : Addr} {k : Nat} {pg : Arguments} {sg : Scope} {fd : FuncData} {Ng : List Str} {params : Arguments} {body : Expr} {scope : Scope} {f : DE} {l : List Cl1} {j cx : Nat} {h₀ : ExceptHandler} {hds : List ExceptHandler} {p lpos pos p1 p2 p3 p4 p5 p8 : Pos}
    (h0 : T.err = none) (F : ClsT X.K X.mg tbl) (hg : Gl X x) (hm : X.mg x = some (.ref g))
    (FD : FunD X.K x x pg [.Try [.Return (some (.Tuple [.Constant (.str told) j p3, .Call (.Name a p1) [] [] p2] cx p4)) p5] (h₀ :: hds) [] [] p8] sg [] [] g fd) (hb : L2.Binds X.K fd [a] []) (Sg : FnScope Ng [a] sg) (hNg : Ng[0]? = some a) (hva : Vis sg a) (hs0 : ∀ f : Addr, (L2.start Ng [V.ref f])[0]? = some (some (V.ref f)))
    (hh : ∀ (cdg : Value) (s : Shared) (H : Hp), HdE (cxOf C8.CX0 X.prog X.w X.K X.mg X.base Ng x sg g cdg X.A X.stack s H C8.E0).nox T (h₀ :: hds) l) (hh1 : LkE X T (lkF X T l) l)
    (TB : LamX.TabB X.base X.mg c P) (hcode : X.env.code = .ref c) (hmT : (P, X.env.qual ++ "<lambda>") ∈ T.tabs) (hu : ∀ p ∈ T.tabs, p.1 = P → p.2 = X.env.qual ++ "<lambda>") (hr : Room (k + 2) X.A) (L : LamX.LamS X.env.scope scope) (hdef : defaultsOf params X.env = ([], []))
    (hbind : ∀ (q : Str) (cl : List (Str × Addr)) (pm cv ctv : Value), bindArgs (PySem.W.kla_fn "<lambda>" q params body scope cl pm cv ctv) ⟨[], []⟩ = pure [])
    (hbody : ∀ (A : Around) (outer : List Env) (s : Shared) (H : Hp) (E' : XK) (f' c' : Addr), Room k (A.deeper (LamX.lamEnv X scope s.heap.objs.size f' c')) → EV (LamX.lamCx X A outer s H E' scope f' c') T E' body f)
    (hdb : (x == ("__debug__" : Str)) = false := by decide) (hd : (a == ("__debug__" : Str)) = false := by decide) (hcd : (a == ("__classdict__" : Str)) = false := by decide) :
    EV X T E (.Call (.Name x p) [.Lambda params body scope lpos] [] pos) (dHeard tbl Ng.length told l f) := by
  obtain ⟨oc, od, dV, kV, doc, pm, an, cdv, ct, osl, rfl, lk, hcg, _, _⟩ := FD.ex
  refine pe_imp (LamX.pe_lamcall (T := T.tabs) (TT := TTh X.K Ng.length told (lkF X T l)) (t := fun E' => Tv (gOf X T) E' f) hg hm FD.kp lk hcg hb Sg hNg hva (heard_gives Sg.nd hs0 fun s H => ?_) TB hcode hmT hu hr L hdef hbind hbody hdb hd hcd) fun σ H Q q => heard_read h0 F hh1 q
  exact (lkF_ok (hh cdv s H)).1
end
/-! ### def x(a): try: a() except ..; what follows -/
def finR (r : Res (Fl × AE)) : Res PV := match r with
  | .ok (.rt p, _) st => .ok p st
  | .ok (.nx, _) st => .ok .non st
  | _ => .fail
noncomputable def dHeard2 (tbl : Str → Str → Option Bool) (n : Nat) (l : List Cl1) (g : DS) (f : DE) : DE := fun σ st => match f σ st with
  | .ok _ st' => finR (g (List.replicate n none) st')
  | .exc c w st' => (match runH tbl n c w l st' with
    | .ok (.rt p, _) st2 => .ok p st2
    | .ok (.nx, _) st2 => finR (g (List.replicate n none) st2)
    | _ => .fail)
  | .fail => .fail
section
variable {X : Cx} {T : TR} {E : XK} {tbl : Str → Str → Option Bool}
theorem endH_len {n : Nat} {st st2 : Store} {r : Res (Fl × AE)} {fl : Fl} {a : AE} (h : endH n st r = .ok (fl, a) st2) : a.length = n := by
  unfold endH at h
  split at h
  all_goals first
    | (split at h
       · cases h; simp
       · cases h)
    | cases h
theorem runH_len {n : Nat} {c : Str} {w : PV} : ∀ {l : List Cl1} {st st2 : Store} {fl : Fl} {a : AE}, runH tbl n c w l st = .ok (fl, a) st2 → a.length = n
  | [], st, st2, fl, a, h => by unfold runH at h; cases h
  | (x, o, g) :: r, st, st2, fl, a, h => by
    unfold runH at h
    split at h
    · exact endH_len h
    · exact runH_len h
    · cases h
/-- behind the try statement -/
abbrev endG (X : Cx) (T : TR) (g : DS) (Q : VK) : Ends := { nx := fun σ H => Ts (gOf X T) E0' g (endQ Q) σ H, rt := Q }
theorem fin_post {ρ : List Addr} {H : Hp} {Q : VK} {r : Res (Fl × AE)} (h : Pst (gOf X T) E ρ H (KV (gOf X T) Q) (finR r)) : Pst (gOf X T) E0' ρ H (KS (gOf X T) (endQ Q)) r := by
  cases r with
  | ok rr st2 =>
    obtain ⟨fl, a2⟩ := rr
    cases fl with
    | rt p => exact fun ρ2 H2 x2 s2 σ2 _ u ru => h ρ2 H2 x2 s2 u ru
    | nx => exact fun ρ2 H2 x2 s2 σ2 _ => h ρ2 H2 x2 s2 _ .non
    | bk => exact h.elim
    | ct => exact h.elim
  | exc _ _ _ => exact h.elim
  | fail => exact h.elim
def TTh2 (X : Cx) (T : TR) (n : Nat) (g : DS) (l' : List Hdl) : (XK → Hp → VK → Prop) → Hp → VK → Prop := fun tl H Q => ∃ E' : XK, (∀ cls d (σ' : St) H', σ'.length = n → E' cls d H' → wAll X.K (fun cls d _ H => E0' cls d H) (endG X T g Q) l' cls d σ' H') ∧
  tl E' H fun _ H1 => ∀ σ' : St, σ'.length = n → (endG X T g Q).nx σ' H1
theorem heard2_read {σ : St} {H : Hp} {Q : VK} {n : Nat} {l' : List Hdl} {l : List Cl1} {g : DS} {f : DE} (h0 : T.err = none) (F : ClsT X.K X.mg tbl) (lk : LkE X T l' l) (h : Tv (gOf X T) E (dHeard2 tbl n l g f) σ H Q) :
    LamX.tLam T.tabs (TTh2 X T n g l') (fun E' => Tv (gOf X T) E' f) σ H Q := by
  obtain ⟨ρ, aσ, st, hE, hS, h⟩ := h
  refine ⟨hS.tabs, fun H1 e t1 => ⟨fun cls d H' => ∀ σ' : St, σ'.length = n → wAll X.K (fun cls d _ H => E0' cls d H) (endG X T g Q) l' cls d σ' H', fun cls d σ' H' hl w => w σ' hl, ρ, aσ, st, hE.ext (G := gOf X T) (lam_ext e), lam_rls (G := gOf X T) e t1 hS, ?_⟩⟩
  have h := Pst.base (G := gOf X T) (lam_ext e) h
  unfold dHeard2 at h
  have rest : ∀ {ρ' : List Addr} {H' : Hp} {st' : Store}, RlS (gOf X T) ρ' H' st' → Pst (gOf X T) E ρ' H' (KV (gOf X T) Q) (finR (g (List.replicate n none) st')) → ∀ σ' : St, σ'.length = n → (endG X T g Q).nx σ' H' :=
    fun s h σ' hl => ⟨_, _, _, rlE_none hl, s, fin_post h⟩
  cases q : f aσ st with
  | ok v st' =>
    rw [q] at h
    intro ρ' H' x s u r
    exact rest s (Pst.base (G := gOf X T) x h)
  | exc c w st' =>
    rw [q] at h
    intro ρ' H' ca d v x s hc hd ho r σ' hl
    have h : Pst (gOf X T) E ρ' H' (KV (gOf X T) Q) (match runH tbl n c w l st' with
      | .ok (.rt p, _) st2 => .ok p st2
      | .ok (.nx, _) st2 => finR (g (List.replicate n none) st2)
      | _ => .fail) := Pst.base (G := gOf X T) x h
    refine wall_of (E := E0') h0 F lk (n := n) (c := c) (w := w) (st := st') ?_ s hc hd ho r σ' hl
    cases z : runH tbl n c w l st' with
    | ok rr st2 =>
      rw [z] at h
      obtain ⟨fl, a2⟩ := rr
      cases fl with
      | rt p => exact fun ρ2 H2 x2 s2 σ2 _ u ru => h ρ2 H2 x2 s2 u ru
      | nx => 
        intro ρ2 H2 x2 s2 σ2 e2
        have hl2 : σ2.length = n := by rw [← e2.len]; exact runH_len z
        exact rest s2 (Pst.base (G := gOf X T) x2 h) σ2 hl2
      | bk => exact h.elim
      | ct => exact h.elim
    | exc _ _ _ => rw [z] at h; exact h.elim
    | fail => rw [z] at h; exact h.elim
  | fail => rw [q] at h; exact h.elim
theorem pe_weak {Z : Cx} {e : Expr} {te : TE} (he : PE Z e te) : PE Z e fun σ H Q => ∃ Q0 : VK, te σ H Q0 ∧ ∀ v H1, Q0 v H1 → Q v H1 :=
  ⟨fun pins s σ H Q I ⟨Q0, h, i⟩ => thn (he.run pins s σ H Q0 I h) fun u s1 ⟨v, H1, I1, r, q⟩ => ⟨v, H1, I1, r, i v H1 q⟩⟩
theorem heard2_gives {Ng : List Str} {x a q : Str} {sg : Scope} {gf : Addr} {cdg : Value} {h₀ : ExceptHandler} {hds : List ExceptHandler} {l' : List Hdl} {g : DS} {rest : List Stmt} {p1 p2 p5 p8 : Pos} (hN : Ng.Nodup) (hs0 : ∀ f : Addr, (L2.start Ng [V.ref f])[0]? = some (some (V.ref f))) (hl0 : ∀ f : Addr, (L2.start Ng [V.ref f]).length = Ng.length)
    (ha : ∀ (s : Shared) (H : Hp), HdA (cxOf C8.CX0 X.prog X.w X.K X.mg X.base Ng x sg gf cdg X.A X.stack s H C8.E0).nox (h₀ :: hds) l')
    (hr : ∀ (s : Shared) (H : Hp), ESs (cxOf C8.CX0 X.prog X.w X.K X.mg X.base Ng x sg gf cdg X.A X.stack s H C8.E0).nox T E0' rest g) :
    LamX.GivesTo X Ng x sg gf cdg (.Try [.Expr (.Call (.Name a p1) [] [] p2) p5] (h₀ :: hds) [] [] p8 :: rest) a q (TTh2 X T Ng.length g l') := by
  intro f c' s H Q tl act hc h
  let Z := (cxOf C8.CX0 X.prog X.w X.K X.mg X.base Ng x sg gf cdg X.A X.stack s H C8.E0).nox
  refine ⟨_, pss_cons (ps_try_all (X := Z) (Wout := fun cls d _ H => E0' cls d H) (tb := fun W D σ H => ∃ E' : XK, (∀ cls d (σ' : St) H', σ'.length = Ng.length → E' cls d H' → W cls d σ' H') ∧ σ[0]? = some (some (.ref f)) ∧ H c' = some (LamX.CodeO c' q) ∧ σ.length = Ng.length ∧ tl E' H fun v H1 => ∀ σ' : St, σ'.length = Ng.length → D.nx σ' H1)
    rfl rfl hN LamX.takes0 (fun W pn xe tk _ => ?_) (ha s H)) (hr s H), ?_⟩
  · refine ⟨fun pins s' σ H' D I h' => ?_⟩
    obtain ⟨E', hW, h1, h2, hl, h3⟩ := h'
    have tk' := takes_len (X := Z.tr pn xe) tk hW
    have hp := act (fun cls d _ H => E' cls d H) pn xe E' p1 p2 tk' fun _ _ _ _ h => h
    have hq := pss_one (ps_expr (pos := p5) (pe_weak hp) rfl)
    exact hq.run pins s' σ H' D I ⟨_, ⟨h1, h2, h3⟩, fun v H1 k => k σ hl⟩
  · obtain ⟨E', hE, ht⟩ := h
    exact ⟨E', hE, hs0 f, hc, hl0 f, ht⟩
theorem ev_heard2 {x a : Str} {gf c P : Addr} {k : Nat} {pg : Arguments} {sg : Scope} {fd : FuncData} {Ng : List Str} {params : Arguments} {body : Expr} {scope : Scope} {f : DE} {l : List Cl1} {g : DS} {h₀ : ExceptHandler} {hds : List ExceptHandler} {rest : List Stmt} {p lpos pos p1 p2 p5 p8 : Pos}
    (h0 : T.err = none) (F : ClsT X.K X.mg tbl) (hg : Gl X x) (hm : X.mg x = some (.ref gf))
    (FD : FunD X.K x x pg (.Try [.Expr (.Call (.Name a p1) [] [] p2) p5] (h₀ :: hds) [] [] p8 :: rest) sg [] [] gf fd) (hb : L2.Binds X.K fd [a] []) (Sg : FnScope Ng [a] sg) (hNg : Ng[0]? = some a) (hva : Vis sg a) (hs0 : ∀ f : Addr, (L2.start Ng [V.ref f])[0]? = some (some (V.ref f))) (hl0 : ∀ f : Addr, (L2.start Ng [V.ref f]).length = Ng.length)
    (hh : ∀ (cdg : Value) (s : Shared) (H : Hp), HdE (cxOf C8.CX0 X.prog X.w X.K X.mg X.base Ng x sg gf cdg X.A X.stack s H C8.E0).nox T (h₀ :: hds) l) (hh1 : LkE X T (lkF X T l) l)
    (hrest : ∀ (cdg : Value) (s : Shared) (H : Hp), ESs (cxOf C8.CX0 X.prog X.w X.K X.mg X.base Ng x sg gf cdg X.A X.stack s H C8.E0).nox T E0' rest g)
    (TB : LamX.TabB X.base X.mg c P) (hcode : X.env.code = .ref c) (hmT : (P, X.env.qual ++ "<lambda>") ∈ T.tabs) (hu : ∀ p ∈ T.tabs, p.1 = P → p.2 = X.env.qual ++ "<lambda>") (hr : Room (k + 2) X.A) (L : LamX.LamS X.env.scope scope) (hdef : defaultsOf params X.env = ([], []))
    (hbind : ∀ (q : Str) (cl : List (Str × Addr)) (pm cv ctv : Value), bindArgs (PySem.W.kla_fn "<lambda>" q params body scope cl pm cv ctv) ⟨[], []⟩ = pure [])
    (hbody : ∀ (A : Around) (outer : List Env) (s : Shared) (H : Hp) (E' : XK) (f' c' : Addr), Room k (A.deeper (LamX.lamEnv X scope s.heap.objs.size f' c')) → EV (LamX.lamCx X A outer s H E' scope f' c') T E' body f)
    (hdb : (x == ("__debug__" : Str)) = false := by decide) (hd : (a == ("__debug__" : Str)) = false := by decide) (hcd : (a == ("__classdict__" : Str)) = false := by decide) :
    EV X T E (.Call (.Name x p) [.Lambda params body scope lpos] [] pos) (dHeard2 tbl Ng.length l g f) := by
  obtain ⟨oc, od, dV, kV, doc, pm, an, cdv, ct, osl, rfl, lk, hcg, _, _⟩ := FD.ex
  refine pe_imp (LamX.pe_lamcall (T := T.tabs) (TT := TTh2 X T Ng.length g (lkF X T l)) (t := fun E' => Tv (gOf X T) E' f) hg hm FD.kp lk hcg hb Sg hNg hva (heard2_gives Sg.nd hs0 hl0 (fun s H => ?_) fun s H => hrest cdv s H) TB hcode hmT hu hr L hdef hbind hbody hdb hd hcd) fun σ H Q q => heard2_read h0 F hh1 q
  exact (lkF_ok (hh cdv s H)).1
end
end DN
set_option Elab.async false
set_option linter.all false
set_option maxRecDepth 100000
set_option maxHeartbeats 2000000
/-! DnLawT: the end of a law some of whose defs make lambdas. -/
namespace DN
open PySem PySem.Spec PyProof.Rows L2
/-- a def, its code object c -/
def FunC (K : PySem.W.Frag) (x qual : Str) (params : Arguments) (body : List Stmt) (scope : Scope) (f : Addr) (fd : FuncData) (c : Addr) : Prop := ∃ (oc : Value) (od : Option Addr) (dV kV doc pm : Value) (an : Option Addr) (ct : Value) (osl : Array (Option Value)),
  fd = PySem.W.fnOf x qual params body scope dV kV doc pm an (.ref c) ct ∧ K.lookup f = some ⟨oc, od, .func fd, osl⟩ ∧ PySem.W.codeIn K (.ref c) qual = true
section
variable {P : Program} {w : World} {K : PySem.W.Frag} {mg : Str → Option Value} {base : Heap} {x qual : Str} {params : Arguments} {body : List Stmt} {scope : Scope} {f c : Addr} {fd : FuncData} {N ps : List Str} {k : Nat} {g : DS} {tb : List (Addr × Str)}
theorem fn_okKT (F : FunC K x qual params body scope f fd c) (S : FnScope N ps scope)
    (hb : ∀ (T : TR) (_ : Tok tb T) (A : Around) (outer : List Env) (s : Shared) (H : Hp) (E : XK), Room k (A.deeper (envOfC qual scope s.heap.objs.size f (.ref c))) → ESs (cxOf (CX P w) P w K mg base N qual scope f (.ref c) A outer s H E) T E body g) :
    FnD P w K mg base tb (k + 1) f fd ps (dFnK ps.length N.length g) := by
  obtain ⟨oc, od, dV, kV, doc, pm, an, ct, osl, rfl, lk, hcd⟩ := F
  refine ⟨fn_of lk hcd S (fun vs H Q E ⟨T, ρ, qs, st, _, _, r, hn, _⟩ => by rw [← r.length, hn]) fun A outer s H vs Q E hr ⟨T, ρ, qs, st, hT, hS, r, hn, h⟩ => ?_, fun qs st h => ?_⟩
  · refine ⟨_, hb T hT A outer s H E hr, ρ, _, st, rlE_start (ps := ps) r hn, hS, ?_⟩
    unfold dFnK at h
    rw [if_pos hn] at h
    refine h.bind.imp fun r' st' ρ' H' _ _ z σ' e' => ?_
    obtain ⟨fl, a'⟩ := r'
    cases fl with
    | nx => exact z.2.2.ret z.2.1 _ .non
    | bk => exact z.2.2.elim
    | ct => exact z.2.2.elim
    | rt v => exact fun u ru => z.2.2.ret z.2.1 u ru
  · unfold dFnK at h
    split at h
    · assumption
    · exact (h rfl).elim
theorem fn_okT (F : FunC K x qual params body scope f fd c) (S : FnScope N ps scope)
    (hb : ∀ (T : TR) (_ : Tok tb T) (A : Around) (outer : List Env) (s : Shared) (H : Hp) (E : XK), Room k (A.deeper (envOfC qual scope s.heap.objs.size f (.ref c))) → ESs (cxOf (CX P w) P w K mg base N qual scope f (.ref c) A outer s H E) T E body g) :
    FnD P w K mg base tb (k + 1) f fd ps (dFn ps.length N.length g) :=
  ⟨(fn_okKT F S hb).ok.imp fun vs H Q E ⟨T, ρ, qs, st, hT, hS, r, hn, h⟩ => ⟨T, ρ, qs, st, hT, hS, r, hn, gc_ok hS h⟩, fun qs st h => (fn_okKT F S hb).ar qs st fun e => h (by unfold dFn; rw [e]; rfl)⟩
end
theorem law_walkT {l : PySem.W.OpenLaw} {k : Nat} {q : Program} {loose : List Str} {XP : (Str → Option Value) → Heap → Prop} {YP : World → Heap → Prop} {d : DefRec} {dl : List PV → M PV} {x : Str}
    (hn : l.most = some 63) (hdf : d.params.defaults = []) (hr : Room k callerA)
    (F : ∀ (w : World) (mg : Str → Option Value) (h : Heap), YP w h → h.Ns mainGlobals mg → ∃ (K : PySem.W.Frag) (fa : Addr) (fd : FuncData) (cs : List (Addr × Addr)) (tb : List (Addr × Str)), K.In h ∧ mg d.name = some (.ref fa) ∧ (∀ (s : Shared) (us : List Value), us.length = 1 → BindsTo s fd ⟨us, []⟩ ([x].zip us)) ∧
      (∀ p ∈ cs, h.get? p.2 = some { cls := .none, data := .fields #[] }) ∧ (∀ p ∈ cs, K.lookup p.2 = none) ∧ (∀ p ∈ cs, PySem.W.CodeHd h p.1 p.2) ∧ (∀ p ∈ tb, ∃ c, (c, p.1) ∈ cs) ∧
      ∀ base : Heap, (∀ p ∈ cs, LamX.TabB base mg p.1 p.2) → FnD l.prog w K mg base tb k fa fd [x] dl)
    (ht : ∀ ns : List Int, ns.length ≤ 63 → (∀ z ∈ ns, Builtin.Int.intBits z ≤ 1048576) → ∃ st, dl [.scr (ns.map PV.int)] [] = .ok (.bl true) st) :
    PySem.W.WalkO q loose XP YP l.row.toRowW d [] (fun f vs => PySem.call f vs) := by
  refine Att.attach_callB hn hdf fun w s₀ s₁ mg mb fa o pm cd doc a vs ns G Y ho hd hcd hmg hobj hints hlen hbits hg => ?_
  obtain ⟨K, fa', fd, cs, tb, KX, hfa, hb, hT, nT, C, htb, hF⟩ := F w mg _ Y G.T.g
  rw [hmg] at hfa
  cases hfa
  refine LamX.law_callTs (cs := cs) KX G.T.g G.T.b G.T.builtins G.T.nolimit hg hT nT C G.T.bmain hobj hints (Nat.le_trans hlen (by decide)) hr (fun base _ _ TB => (hF base TB).ok) (fun s u => hb s [u] rfl) (fun H hH hS => ?_) fun H e s' ⟨_, _, _, _, _, _, _, _, _, _, _, _, h⟩ => h
  obtain ⟨st, e⟩ := ht ns hlen hbits
  refine ⟨⟨tb, [], none⟩, [], _, [], ⟨rfl, rfl⟩, ⟨rfl, List.nodup_nil, (fun n o a h => by simp at h), (fun p hp => ?_), (fun a ha => by cases ha)⟩, .cons (.scr (xs := ns.map V.int) ?_ (rl_ints ns)) .nil, rfl, ?_⟩
  · obtain ⟨c, hc⟩ := htb p hp
    exact LamX.TabS.nil (hH _ hc)
  · rcases hS with h | h
    · exact .inl ⟨h, by simp, by simp⟩
    · exact .inr fun _ => .inr h
  · rw [e]
    intro ρ' H' _ _ v r
    cases r
    rfl
end DN
set_option Elab.async false
set_option linter.all false
set_option maxRecDepth 100000
set_option maxHeartbeats 4000000
/-! DnHead: what the program's top tells of its exception classes. -/
namespace DN
open PySem PySem.Spec PyProof.Rows L2
def errB (K : PySem.W.Frag) (C : Addr) : Bool := (PySem.W.clsIn K C).isSome && (He.eqO (PySem.W.findIn K (.ref C) "__getattribute__") (some (some (.builtin "BaseException.__getattribute__"))) && (He.eqO (PySem.W.findIn K (.ref C) "__getattr__") (some none) &&
  (decide (PySem.W.subIn K (.ref C) (.type "BaseException") = some true) && (PySem.W.hasDictIn K C && (He.eqO (PySem.W.findIn K (.ref C) "what") (some none) && (He.eqO (PySem.W.findIn K (.ref C) "__class__") (some (some (.builtin "object.__class__"))) &&
  (He.eqO (PySem.W.specialIn K (.builtin "object.__class__") "__get__") (some (some (.builtin "getset_descriptor.__get__"))) && (decide (PySem.W.takesIn K (.builtin "object.__class__") = some true) && decide (PySem.W.mroIn K C (.type "object") = some true)))))))))
theorem errB_ok {K : PySem.W.Frag} {C : Addr} (h : errB K C = true) : ErrC K C := by
  unfold errB at h
  obtain ⟨h1, h⟩ := He.ba h
  obtain ⟨h2, h⟩ := He.ba h
  obtain ⟨h3, h⟩ := He.ba h
  obtain ⟨h4, h⟩ := He.ba h
  obtain ⟨h5, h⟩ := He.ba h
  obtain ⟨h6, h⟩ := He.ba h
  obtain ⟨h7, h⟩ := He.ba h
  obtain ⟨h8, h⟩ := He.ba h
  obtain ⟨h9, h⟩ := He.ba h
  exact ⟨h1, He.eqO_ok h2, He.eqO_ok h3, of_decide_eq_true h4, h5, He.eqO_ok h6, He.eqO_ok h7, He.eqO_ok h8, of_decide_eq_true h9, of_decide_eq_true h⟩
/-- the classes, by name, each with the names of those that it is beneath -/
def tblOf (cl : List (Str × List Str)) (c x : Str) : Option Bool := match cl.lookup c with
  | some bs => if (cl.lookup x).isSome ∨ x = ("ValueError" : Str) then some (decide (x ∈ bs)) else none
  | none => none
def clsB (K : PySem.W.Frag) (cl : List (Str × List Str)) : Bool := cl.all fun p => errB K (He.ga K p.1) && (cl.all fun q => decide (PySem.W.exmOne K (.ref (He.ga K p.1)) (.ref (He.ga K q.1)) = some (decide (q.1 ∈ p.2))) && decide (PySem.W.kitOne K (.ref (He.ga K p.1)) (.ref (He.ga K q.1)) = some (decide (q.1 ∈ p.2)))) &&
  (decide (PySem.W.exmOne K (.ref (He.ga K p.1)) (.type "ValueError") = some (decide (("ValueError" : Str) ∈ p.2))) && decide (PySem.W.kitOne K (.ref (He.ga K p.1)) (.type "ValueError") = some (decide (("ValueError" : Str) ∈ p.2))))
theorem clsT_ok {K : PySem.W.Frag} {mg : Str → Option Value} {cl : List (Str × List Str)} (h : clsB K cl = true) (hm : ∀ p ∈ cl, mg p.1 = some (.ref (He.ga K p.1))) (hv : mg ("ValueError" : Str) = none) : ClsT K mg (tblOf cl) := by
  have get : ∀ {c : Str} {bs : List Str}, cl.lookup c = some bs → (c, bs) ∈ cl := fun {c bs} e => PySem.mem_of_lookup e
  have one : ∀ {c : Str} {bs : List Str}, cl.lookup c = some bs → _ := fun {c bs} e => List.all_eq_true.mp h (c, bs) (get e)
  have tb : ∀ {c x : Str} {b : Bool}, tblOf cl c x = some b → ∃ bs, cl.lookup c = some bs ∧ ((cl.lookup x).isSome ∨ x = ("ValueError" : Str)) ∧ b = decide (x ∈ bs) := fun {c x b} e => by
    unfold tblOf at e
    split at e
    · rename_i bs e2
      split at e
      · rename_i z
        cases e
        exact ⟨bs, e2, z, rfl⟩
      · cases e
    · cases e
  refine ⟨fun c x b C D e hc hx => ?_, fun c b C e hc hv2 => ?_, fun c x b C e hc => ?_⟩
  · obtain ⟨bs, e1, e2, rfl⟩ := tb e
    obtain ⟨h2, _⟩ := He.ba (one e1)
    obtain ⟨_, h2⟩ := He.ba h2
    rw [hm _ (get e1)] at hc
    cases hc
    rcases e2 with e2 | e2
    · obtain ⟨bx, e3⟩ := Option.isSome_iff_exists.mp e2
      rw [hm _ (get e3)] at hx
      cases hx
      obtain ⟨h3, h4⟩ := He.ba (List.all_eq_true.mp h2 (x, bx) (get e3))
      exact ⟨of_decide_eq_true h3, of_decide_eq_true h4⟩
    · rw [e2, hv] at hx
      cases hx
  · obtain ⟨bs, e1, e2, rfl⟩ := tb e
    obtain ⟨_, h3⟩ := He.ba (one e1)
    rw [hm _ (get e1)] at hc
    cases hc
    obtain ⟨h3, h4⟩ := He.ba h3
    exact ⟨of_decide_eq_true h3, of_decide_eq_true h4⟩
  · obtain ⟨bs, e1, e2, rfl⟩ := tb e
    obtain ⟨h1, _⟩ := He.ba (one e1)
    obtain ⟨h1, _⟩ := He.ba h1
    rw [hm _ (get e1)] at hc
    cases hc
    exact errB_ok h1
/-! ### an __init__ with its class's cell -/
abbrev IniW : Type := Option (Str × Str × Arguments × FuncBody × Scope × Addr × List Str × Addr)
def iniW (K : PySem.W.Frag) (p : Str × Option Str) : IniW := match K.lookup (He.fAd K p) with
  | some ⟨_, _, .func fd, _⟩ => some (fd.name, fd.qualname, fd.params, fd.body, fd.scope, fd.globals, fd.closure.map (·.1), fd.builtins)
  | _ => none
/-- the hook of a head, one __init__ more -/
def hookE (n : Nat) (fa : List He.Fa) (fn : List He.DefD) (ts : List He.Tab) (tf : List He.Defn) (ex : PySem.W.Frag → Bool) (p : Str × Option Str) (v : IniW) : PySem.W.Hook where
  α := He.AlX × IniW
  obs := fun s => (He.obsX n fa fn ts tf ex s.heap.get?, iniW (He.frT s.heap.get? (He.asD s.heap.get? n)) p)
  val := fun w => (He.valX fn ts w, v)
  says := fun w h => ∃ K : PySem.W.Frag, K.In h ∧ He.SaysX fa fn ts tf ex w h K ∧ iniW K p = v
  of := fun _ _ e => ⟨_, He.frT_in, He.saysX_of (congrArg (fun z : He.AlX × IniW => z.1) e), congrArg (fun z : He.AlX × IniW => z.2) e⟩
  keeps := fun _ _ _ ⟨K, hK, c, d⟩ k => ⟨K, PySem.W.Frag.In.keeps hK k, ⟨c.t, c.more, c.hd, c.out, fun p hp => k _ _ (c.empty p hp)⟩, d⟩
def initB (P : Program) (K : PySem.W.Frag) (fI D : Addr) (qual : Str) : Bool := (match K.lookup fI with
  | some ⟨_, _, .func fd, _⟩ => (match fd.defaults, fd.kwdefaults, fd.annotations, fd.code, fd.closure with
    | .none, .none, none, .ref cda, [(_, cc)] => PySem.W.codeIn K (.ref cda) qual && ((match K.lookup cda with
        | some ⟨_, _, .fields vs, _⟩ => (match (vs[2]? : Option Value) with
          | some (Value.str file _) => ((P.main.file : Str) == file)
          | _ => false)
        | _ => false) && (match K.lookup cc with
        | some ⟨_, _, .cell (some (.ref d)), _⟩ => decide (d = D)
        | _ => false))
    | _, _, _, _, _ => false)
  | _ => false) && ((PySem.W.clsIn K D).isSome && (decide (PySem.W.typeIn K (.ref fI) = some (.type "function")) && (He.eqO (PySem.W.nsIn K cStatics "thirdparty.any") (some none) && !(P.main.scope.names.lookup ("super" : Str)).isSome)))
theorem initF_ok {P : Program} {K : PySem.W.Frag} {mg : Str → Option Value} {p : Str × Option Str} {D : Addr} {params : Arguments} {body : List Stmt} {scope : Scope} {qual : Str} (e : iniW K p = some (("__init__" : Str), qual, params, FuncBody.stmts body, scope, mainGlobals, [("__class__" : Str)], builtinsNs)) (h : initB P K (He.fAd K p) D qual = true) (hs : mg "super" = none) : InitF P K mg (He.fAd K p) D params body scope qual := by
  unfold initB at h
  obtain ⟨h1, h⟩ := He.ba h
  obtain ⟨h2, h⟩ := He.ba h
  obtain ⟨h3, h⟩ := He.ba h
  obtain ⟨h4, h5⟩ := He.ba h
  refine ⟨?_, Option.isSome_iff_exists.mp h2, of_decide_eq_true h3, He.eqO_ok h4, hs, by simpa using h5⟩
  unfold iniW at e
  split at e
  · rename_i oc od fd osl lk
    rw [lk] at h1
    dsimp only at h1
    split at h1
    · rename_i cda nm cc e1 e2 e3 e4 e5
      obtain ⟨g1, h1⟩ := He.ba h1
      obtain ⟨g2, g3⟩ := He.ba h1
      obtain ⟨fn, fq, fp, fb, fs, fg, fc, fdd, fk, fdoc, fpm, fan, fcd, fct, fbl⟩ := fd
      simp only [Option.some.injEq, Prod.mk.injEq] at e
      obtain ⟨rfl, rfl, rfl, rfl, rfl, rfl, z, rfl⟩ := e
      dsimp only at e1 e2 e3 e4 e5
      subst e1 e2 e3 e4 e5
      simp only [List.map_cons, List.map_nil, List.cons.injEq, and_true] at z
      subst z
      refine ⟨oc, od, fdoc, fpm, fct, osl, cc, cda, lk, g1, ?_, ?_⟩
      · split at g2
        · rename_i a b vs c l2
          split at g2
          · rename_i file tf l3
            exact ⟨a, b, vs, c, file, tf, l2, l3, g2⟩
          · cases g2
        · cases g2
      · split at g3
        · rename_i a b d c l2
          have := of_decide_eq_true g3
          subst this
          exact ⟨_, _, _, l2⟩
        · cases g3
    · cases h1
  · cases e
/-! ### the classes that are raised -/
def oexB (K : PySem.W.Frag) (C : Addr) : Bool := (match K.lookup C with
  | some ⟨.type t, _, .cls cd, sl⟩ => decide (t = "type") && (match cd.mro, sl.toList with
    | .ref C' :: bm, [_, _, _, _, some (.builtin n), _] => decide (C' = C) && (decide (n = "ValueError.__new__") && (!cd.hasDel && (cd.hasDict && PySem.HandSPX.refsVE bm)))
    | _, _ => false)
  | _ => false) && (He.eqO (PySem.W.findIn K (.ref C) "__setattr__") (some (some (.builtin "object.__setattr__"))) && (decide (PySem.W.subIn K (.ref C) (.type "BaseException") = some true) && (decide (PySem.W.typeIn K (.ref C) = some (.type "type")) && PySem.W.keepIn K (.ref C))))
theorem oexB_ok {K : PySem.W.Frag} {C : Addr} (h : oexB K C = true) : OexC K C := by
  unfold oexB at h
  obtain ⟨h1, h⟩ := He.ba h
  obtain ⟨h2, h⟩ := He.ba h
  obtain ⟨h3, h⟩ := He.ba h
  obtain ⟨h4, h5⟩ := He.ba h
  refine ⟨?_, He.eqO_ok h2, of_decide_eq_true h3, of_decide_eq_true h4, h5⟩
  split at h1
  · rename_i t dd cd sl lk
    obtain ⟨g1, g2⟩ := He.ba h1
    have g1 := of_decide_eq_true g1
    subst g1
    split at g2
    · rename_i C' bm k0 k1 k2 k3 n k5 hm hs
      obtain ⟨e1, g2⟩ := He.ba g2
      obtain ⟨e2, g2⟩ := He.ba g2
      obtain ⟨e3, g2⟩ := He.ba g2
      obtain ⟨e4, e5⟩ := He.ba g2
      have e1 := of_decide_eq_true e1
      have e2 := of_decide_eq_true e2
      obtain ⟨nm, bs, mro, ns, qn, hd, sn, sub, ab, col, del⟩ := cd
      obtain ⟨l⟩ := sl
      simp only [Bool.not_eq_true'] at e3
      dsimp only at hm hs e3 e4
      subst e1 e2 e3 e4 hm hs
      exact ⟨_, _, _, _, _, _, _, _, _, _, _, _, _, _, _, lk, e5⟩
    · cases g2
  · cases h1
def excB (K : PySem.W.Frag) (fI D C : Addr) : Bool := oexB K C && (decide (PySem.W.mroIn K C (.ref D) = some true) && (He.eqO (PySem.W.ks_superIn K C D "__init__") (some (some (.builtin "ValueError.__init__"))) && (decide (PySem.W.subIn K (.ref C) (.type "ValueError") = some true) &&
  (He.eqO (PySem.W.findIn K (.ref C) "__init__") (some (some (.ref fI))) && He.eqO (PySem.W.findIn K (.ref C) "what") (some none)))))
theorem excB_ok {K : PySem.W.Frag} {fI D C : Addr} (h : excB K fI D C = true) : ExcF K fI D C := by
  unfold excB at h
  obtain ⟨h1, h⟩ := He.ba h
  obtain ⟨h2, h⟩ := He.ba h
  obtain ⟨h3, h⟩ := He.ba h
  obtain ⟨h4, h⟩ := He.ba h
  obtain ⟨h5, h6⟩ := He.ba h
  exact ⟨oexB_ok h1, of_decide_eq_true h2, He.eqO_ok h3, of_decide_eq_true h4, He.eqO_ok h5, He.eqO_ok h6⟩
end DN
set_option Elab.async false
set_option linter.all false
set_option maxRecDepth 100000
set_option maxHeartbeats 4000000
/-! DnHead2: the facts of the program's top, put together. -/
namespace DN
open PySem PySem.Spec PyProof.Rows L2
section
variable {X : Cx} {T : TR}
theorem lk_of : ∀ {l : List Cl1}, (∀ c ∈ l, ∃ D, X.mg c.1 = some (.ref D)) → LkE X T (lkF X T l) l
  | [], _ => .nil
  | (x, o, g) :: r, h => by
    obtain ⟨D, e⟩ := h (x, o, g) List.mem_cons_self
    show LkE X T (((X.mg x).getD .none, o, tsE X T g) :: lkF X T r) ((x, o, g) :: r)
    rw [e]
    exact .cons e (lk_of fun c hc => h c (List.mem_cons_of_mem _ hc))
end
/-! ### code objects and tables -/
/-- of the makers tf (each with what its lambdas are called): pairs of code object and table -/
def csOf (K : PySem.W.Frag) (tf : List He.Defn) : List (Addr × Addr) := tf.map (He.cT K)
def tbOf (K : PySem.W.Frag) (tf : List (He.Defn × Str)) : List (Addr × Str) := tf.map fun p => ((He.cT K p.1).2, p.2)
def tfB (K : PySem.W.Frag) (tf : List (He.Defn × Str)) : Bool := tf.all fun p => tf.all fun q => decide ((He.cT K p.1).2 = (He.cT K q.1).2 → p.2 = q.2)
/-- a def that makes lambdas -/
def MkD (K : PySem.W.Frag) (mg : Str → Option Value) (cs : List (Addr × Addr)) (tb : List (Addr × Str)) (x q : Str) (params : Arguments) (body : List Stmt) (scope : Scope) : Prop :=
  ∃ f fd c P, FunD K x x params body scope [] [] f fd ∧ FunC K x x params body scope f fd c ∧ mg x = some (.ref f) ∧ (c, P) ∈ cs ∧ (P, q) ∈ tb ∧ ∀ p ∈ tb, p.1 = P → p.2 = q
section
variable {K : PySem.W.Frag} {mg : Str → Option Value}
theorem funC_of {x : Str} {p : He.Defn} {params : Arguments} {body : List Stmt} {scope : Scope} {f : Addr} {fd : FuncData} (D : FunD K x x params body scope [] [] f fd) (hf : f = He.fAd K p) : FunC K x x params body scope f fd (He.cT K p).1 := by
  obtain ⟨oc, od, dV, kV, doc, pm, an, cdv, ct, osl, e, lk, hc, _, _⟩ := D.ex
  obtain ⟨c, rfl⟩ := He.codeIn_ref hc
  subst hf
  have ec : He.codeOf K p = c := He.codeOf_eq lk (by rw [e])
  refine ⟨oc, od, dV, kV, doc, pm, an, ct, osl, ?_, lk, ?_⟩
  · show fd = PySem.W.fnOf x x params body scope dV kV doc pm an (.ref (He.codeOf K p)) ct
    rw [ec]
    exact e
  · show PySem.W.codeIn K (.ref (He.codeOf K p)) x = true
    rw [ec]
    exact hc
theorem mkD_of {x q : Str} {p : He.Defn} {params : Arguments} {body : List Stmt} {scope : Scope} {f : Addr} {fd : FuncData} {tf : List (He.Defn × Str)} (D : FunD K x x params body scope [] [] f fd) (hf : f = He.fAd K p) (hm : mg x = some (.ref f)) (ht : (p, q) ∈ tf) (hb : tfB K tf = true) :
    MkD K mg (csOf K (tf.map (·.1))) (tbOf K tf) x q params body scope := by
  refine ⟨f, fd, _, _, D, funC_of D hf, hm, ?_, List.mem_map.mpr ⟨_, ht, rfl⟩, fun r hr e => ?_⟩
  · exact List.mem_map.mpr ⟨p, List.mem_map.mpr ⟨_, ht, rfl⟩, rfl⟩
  · obtain ⟨u, hu, rfl⟩ := List.mem_map.mp hr
    unfold tfB at hb
    exact of_decide_eq_true (List.all_eq_true.mp (List.all_eq_true.mp hb u hu) _ ht) e
theorem tf_ok {fa : List He.Fa} {fn : List He.DefD} {ts : List He.Tab} {tf : List He.Defn} {ex : PySem.W.Frag → Bool} {w : World} {h : Heap} (X : K.In h) (c : He.SaysX fa fn ts tf ex w h K) :
    (∀ p ∈ csOf K tf, h.get? p.2 = some { cls := .none, data := .fields #[] }) ∧ (∀ p ∈ csOf K tf, K.lookup p.2 = none) ∧ ∀ p ∈ csOf K tf, PySem.W.CodeHd h p.1 p.2 := by
  refine ⟨fun p hp => ?_, fun p hp => ?_, fun p hp => ?_⟩
  all_goals obtain ⟨u, hu, rfl⟩ := List.mem_map.mp hp
  · exact c.empty u hu
  · exact c.out u hu
  · exact PySem.W.codeHd_of_K X (c.hd u hu)
theorem tb_cs {tf : List (He.Defn × Str)} : ∀ p ∈ tbOf K tf, ∃ c, (c, p.1) ∈ csOf K (tf.map (·.1)) := fun p hp => by
  obtain ⟨u, hu, rfl⟩ := List.mem_map.mp hp
  exact ⟨_, List.mem_map.mpr ⟨u.1, List.mem_map.mpr ⟨u, hu, rfl⟩, rfl⟩⟩
/-! ### a dict of texts -/
def gdB (K : PySem.W.Frag) (x : Str) (tab : List (Str × Str)) : Bool := tab.all fun p => match PySem.W.nsIn K (He.ga K x) p.1 with
  | some (some (.str v _)) => decide (tab.lookup p.1 = some v)
  | _ => false
theorem gdF_ok {w : World} {x : Str} {tab : List (Str × Str)} (hm : mg x = some (.ref (He.ga K x))) (hd : ∃ es n, KDict K w (He.ga K x) es n) (hb : gdB K x tab = true) : GdF w K mg x tab := by
  refine ⟨_, hm, fun z v e => ?_⟩
  obtain ⟨es, n, D⟩ := hd
  have h1 := List.all_eq_true.mp hb (z, v) (PySem.mem_of_lookup e)
  dsimp only at h1
  split at h1
  · rename_i u t hu
    have h2 := of_decide_eq_true h1
    rw [e] at h2
    cases h2
    exact ⟨es, n, _, D.at_, D.lit, hu, ⟨t, rfl⟩⟩
  · cases h1
end
/-! ### a class's first def -/
def mth (s : Stmt) : Stmt := match s with
  | .ClassDef _ _ _ (b :: _) _ _ _ _ _ _ _ => b
  | _ => .Pass ⟨0, 0, 0, 0⟩
theorem excCal_of {P : Program} {w : World} {K : PySem.W.Frag} {mg : Str → Option Value} {base : Heap} {x : Str} {C fI D : Addr} (hm : mg x = some (.ref C)) (E : ExcF K fI D C) (tF : PySem.W.typeIn K (.ref fI) = some (.type "function"))
    (h : ∃ fd, FnOk P w K mg base (CX P w) 1 fI fd ["self", "what"] (spIn K fI D) ∧ Binds K fd ["self", "what"] []) : ExcCal P w K mg base x := by
  obtain ⟨fd, h1, h2⟩ := h
  exact ⟨C, fI, D, fd, hm, E, tF, h1, h2⟩
end DN
namespace DN
open PySem PySem.Spec PyProof.Rows L2
/-! ### the hook, the statics seen too -/
section
variable {fa : List He.Fa} {fn : List He.DefD} {ts : List He.Tab} {tf : List He.Defn} {ex : PySem.W.Frag → Bool} {w : World}
theorem says_as {h : Heap} {as : List Addr} (e : He.obsT fa fn ts (He.frT h.get? as) = He.valT fn ts w) (e2 : (ex (He.frT h.get? as) && He.tabsB h.get? tf (He.frT h.get? as)) = true) : He.SaysX fa fn ts tf ex w h (He.frT h.get? as) := by
  obtain ⟨x1, x2⟩ := He.ba e2
  have one : ∀ p ∈ tf, PySem.W.codeHdIn (He.frT h.get? as) (He.cT (He.frT h.get? as) p).1 (He.cT (He.frT h.get? as) p).2 = true ∧ ∃ o, h.get? (He.cT (He.frT h.get? as) p).2 = some o ∧ He.emptyTab o = true := fun p hp => by
    obtain ⟨y1, y2⟩ := He.ba (List.all_eq_true.mp x2 p hp)
    refine ⟨y1, ?_⟩
    split at y2
    · rename_i o q
      exact ⟨o, q, y2⟩
    · cases y2
  refine ⟨e, x1, fun p hp => (one p hp).1, fun p hp => ?_, fun p hp => ?_⟩
  all_goals obtain ⟨_, o, q, z⟩ := one p hp
  · exact He.frT_none q z
  · rw [q, He.emptyTab_eq z]
end
def asE (g : Addr → Option Obj) (n : Nat) : List Addr := cStatics :: He.asD g n
def obsE (n : Nat) (fa : List He.Fa) (fn : List He.DefD) (ts : List He.Tab) (tf : List He.Defn) (ex : PySem.W.Frag → Bool) (p : Str × Option Str) (g : Addr → Option Obj) : (He.AlT × Bool) × IniW :=
  ((He.obsT fa fn ts (He.frT g (asE g n)), ex (He.frT g (asE g n)) && He.tabsB g tf (He.frT g (asE g n))), iniW (He.frT g (asE g n)) p)
def hookF (n : Nat) (fa : List He.Fa) (fn : List He.DefD) (ts : List He.Tab) (tf : List He.Defn) (ex : PySem.W.Frag → Bool) (p : Str × Option Str) (v : IniW) : PySem.W.Hook where
  α := (He.AlT × Bool) × IniW
  obs := fun s => obsE n fa fn ts tf ex p s.heap.get?
  val := fun w => ((He.valT fn ts w, true), v)
  says := fun w h => ∃ K : PySem.W.Frag, K.In h ∧ He.SaysX fa fn ts tf ex w h K ∧ iniW K p = v
  of := fun _ _ e => ⟨_, He.frT_in, says_as (congrArg (fun z : (He.AlT × Bool) × IniW => z.1.1) e) (congrArg (fun z : (He.AlT × Bool) × IniW => z.1.2) e), congrArg (fun z : (He.AlT × Bool) × IniW => z.2) e⟩
  keeps := fun _ _ _ ⟨K, hK, c, d⟩ k => ⟨K, PySem.W.Frag.In.keeps hK k, ⟨c.t, c.more, c.hd, c.out, fun p hp => k _ _ (c.empty p hp)⟩, d⟩
theorem obsE_eq {n : Nat} {fa : List He.Fa} {fn : List He.DefD} {ts : List He.Tab} {tf : List He.Defn} {ex : PySem.W.Frag → Bool} {p : Str × Option Str} {v : IniW} {g : Addr → Option Obj} {s : Shared} (h : ∀ a, g a = s.heap.get? a) : obsE n fa fn ts tf ex p g = (hookF n fa fn ts tf ex p v).obs s := by
  have e : g = s.heap.get? := funext h
  rw [e]
  rfl
end DN
namespace DN
open PySem PySem.Spec PyProof.Rows L2
/-- what the lambdas of a def are called -/
def qlam (x : Str) (sc : Scope) : Str := (envOfC x sc 0 0 .none).qual ++ "<lambda>"
end DN
set_option Elab.async false
set_option linter.all false
set_option maxRecDepth 100000
set_option maxHeartbeats 4000000
/-! DnSort: sorted of a list, of a tuple, that holds tuples of ints and texts. -/
namespace DN
open PySem PySem.Spec PyProof.Rows L2
/-! ### the order -/
def aLt : Key → Key → Bool
  | .inl i, .inl j => decide (i < j)
  | .inr x, .inr y => decide (x.cps.toList < y.cps.toList)
  | .inl _, .inr _ => true
  | .inr _, .inl _ => false
def kLt : List Key → List Key → Bool
  | _, [] => false
  | [], _ :: _ => true
  | x :: xs, y :: ys => if x = y then kLt xs ys else aLt x y
theorem str_ext {x y : Str} (h : x.cps.toList = y.cps.toList) : x = y := by
  cases x; cases y
  simp only [Str.mk.injEq]
  exact Array.toList_inj.mp h
theorem aLt_asym : ∀ {x y : Key}, aLt x y = true → aLt y x = false
  | .inl i, .inl j, h => by simp only [aLt, decide_eq_true_eq, decide_eq_false_iff_not] at h ⊢; omega
  | .inr x, .inr y, h => by
    simp only [aLt, decide_eq_true_eq, decide_eq_false_iff_not] at h ⊢
    exact List.lt_asymm h
  | .inl _, .inr _, _ => rfl
  | .inr _, .inl _, h => by cases h
theorem aLt_tri : ∀ {x y : Key}, aLt x y = false → aLt y x = false → x = y
  | .inl i, .inl j, h, g => by
    simp only [aLt, decide_eq_false_iff_not] at h g
    have : i = j := by omega
    rw [this]
  | .inr x, .inr y, h, g => by
    simp only [aLt, decide_eq_false_iff_not] at h g
    rw [str_ext (List.le_antisymm (List.not_lt.mp g) (List.not_lt.mp h))]
  | .inl _, .inr _, h, _ => by cases h
  | .inr _, .inl _, _, g => by cases g
theorem aLt_trans : ∀ {x y z : Key}, aLt x y = true → aLt y z = true → aLt x z = true
  | .inl i, .inl j, .inl k, h, g => by simp only [aLt, decide_eq_true_eq] at h g ⊢; omega
  | .inr x, .inr y, .inr z, h, g => by
    simp only [aLt, decide_eq_true_eq] at h g ⊢
    exact List.lt_trans h g
  | .inl _, .inl _, .inr _, _, _ => rfl
  | .inl _, .inr _, .inr _, _, _ => rfl
  | .inl _, .inr _, .inl _, _, g => by cases g
  | .inr _, .inl _, _, h, _ => by cases h
  | .inr _, .inr _, .inl _, _, g => by cases g
theorem kLt_asym : ∀ {x y : List Key}, kLt x y = true → kLt y x = false
  | _, [], h => by simp [kLt] at h
  | [], _ :: _, _ => by simp [kLt]
  | x :: xs, y :: ys, h => by
    unfold kLt at h ⊢
    by_cases e : x = y
    · rw [if_pos e] at h
      rw [if_pos e.symm]
      exact kLt_asym h
    · rw [if_neg e] at h
      rw [if_neg (Ne.symm e)]
      exact aLt_asym h
theorem kLt_tri : ∀ {x y : List Key}, kLt x y = false → kLt y x = false → x = y
  | [], [], _, _ => rfl
  | _ :: _, [], _, g => by simp [kLt] at g
  | [], _ :: _, h, _ => by simp [kLt] at h
  | x :: xs, y :: ys, h, g => by
    unfold kLt at h g
    by_cases e : x = y
    · rw [if_pos e] at h
      rw [if_pos e.symm] at g
      rw [e, kLt_tri h g]
    · rw [if_neg e] at h
      rw [if_neg (Ne.symm e)] at g
      exact absurd (aLt_tri h g) e
theorem kLt_trans : ∀ {x y z : List Key}, kLt x y = true → kLt y z = true → kLt x z = true
  | _, [], _, h, _ => by simp [kLt] at h
  | _, _ :: _, [], _, g => by simp [kLt] at g
  | [], _ :: _, _ :: _, _, _ => by simp [kLt]
  | x :: xs, y :: ys, z :: zs, h, g => by
    unfold kLt at h g ⊢
    by_cases e : x = y
    · rw [if_pos e] at h
      by_cases e2 : y = z
      · rw [if_pos e2] at g
        rw [if_pos (e.trans e2)]
        exact kLt_trans h g
      · rw [if_neg e2] at g
        rw [if_neg (fun q => e2 (e.symm.trans q)), e]
        exact g
    · rw [if_neg e] at h
      by_cases e2 : y = z
      · rw [if_pos e2] at g
        rw [if_neg (fun q => e (q.trans e2.symm)), ← e2]
        exact h
      · rw [if_neg e2] at g
        have t := aLt_trans h g
        have n : x ≠ z := fun q => by
          rw [q] at h
          rw [aLt_asym h] at g
          cases g
        rw [if_neg n]
        exact t
theorem kLt_neg {x y z : List Key} (h : kLt y x = false) (g : kLt z y = false) : kLt z x = false := by
  cases q : kLt z x with
  | false => rfl
  | true =>
    cases p : kLt x y with
    | true => rw [kLt_trans q p] at g; cases g
    | false =>
      rw [kLt_tri p h] at q
      rw [q] at g; cases g
theorem kLt_swo {α : Type} (k : α → List Key) : SrtO.Swo fun v u => kLt (k v) (k u) := ⟨fun _ _ h => kLt_asym h, fun _ _ _ h g => kLt_neg h g⟩
def kins (k : List Key) : List (List Key) → List (List Key)
  | [] => [k]
  | j :: r => if kLt j k = true then j :: kins k r else k :: j :: r
def ksort : List (List Key) → List (List Key)
  | [] => []
  | k :: r => kins k (ksort r)
theorem kins_perm (k : List Key) : ∀ l, (kins k l).Perm (k :: l)
  | [] => .refl _
  | j :: r => by
    unfold kins
    split
    · exact ((kins_perm k r).cons j).trans (.swap k j r)
    · exact .refl _
theorem ksort_perm : ∀ l, (ksort l).Perm l
  | [] => .refl _
  | k :: r => (kins_perm k _).trans ((ksort_perm r).cons k)
theorem kins_sorted (k : List Key) : ∀ l : List (List Key), l.Pairwise (fun x y => kLt y x = false) → (kins k l).Pairwise fun x y => kLt y x = false
  | [], _ => by simp [kins]
  | j :: r, h => by
    unfold kins
    split
    · rename_i q
      refine List.pairwise_cons.mpr ⟨fun a ha => ?_, kins_sorted k r (List.pairwise_cons.mp h).2⟩
      rcases List.mem_cons.mp ((kins_perm k r).mem_iff.mp ha) with rfl | ha
      · exact kLt_asym q
      · exact (List.pairwise_cons.mp h).1 a ha
    · rename_i q
      simp only [Bool.not_eq_true] at q
      refine List.pairwise_cons.mpr ⟨fun a ha => ?_, h⟩
      rcases List.mem_cons.mp ha with rfl | ha
      · exact q
      · exact kLt_neg q ((List.pairwise_cons.mp h).1 a ha)
theorem ksort_sorted : ∀ l, (ksort l).Pairwise fun x y => kLt y x = false
  | [] => .nil
  | k :: r => kins_sorted k _ (ksort_sorted r)
theorem ksort_uniq {a b : List (List Key)} (p : a.Perm b) (ha : a.Pairwise fun x y => kLt y x = false) : a = ksort b :=
  (p.trans (ksort_perm b).symm).eq_of_pairwise (fun x y _ _ h1 h2 => kLt_tri h2 h1) ha (ksort_sorted b)
theorem ksort_eq {a b : List (List Key)} (p : a.Perm b) : ksort a = ksort b := ksort_uniq ((ksort_perm a).trans p) (ksort_sorted a)
/-! ### what may be compared -/
def okp : List Key → List Key → Bool
  | x :: xs, y :: ys => if x = y then okp xs ys else x.isLeft == y.isLeft
  | _, _ => true
def okh : List Key → List Key → Bool
  | x :: _, y :: _ => x.isLeft == y.isLeft
  | _, _ => false
def okKs (l : List (List Key)) : Bool := l.all fun k => l.all fun j => okp k j && okh k j
/-! ### values -/
def KVal (k : Key) (v : Value) : Prop := match k with
  | .inl i => ∃ t, v = .int i t
  | .inr x => ∃ t, v = .str x t
inductive KVals : List Key → List Value → Prop
  | nil : KVals [] []
  | cons {k : Key} {v : Value} {ks : List Key} {vs : List Value} : KVal k v → KVals ks vs → KVals (k :: ks) (v :: vs)
theorem KVals.len : ∀ {ks : List Key} {vs : List Value}, KVals ks vs → vs.length = ks.length
  | _, _, .nil => rfl
  | _, _, .cons _ r => by simp [r.len]
theorem KVal.inj {k j : Key} {v : Value} (h : KVal k v) (g : KVal j v) : k = j := by
  cases k <;> cases j <;> (obtain ⟨t, rfl⟩ := h; obtain ⟨u, e⟩ := g; cases e) <;> rfl
theorem KVals.inj : ∀ {ks js : List Key} {vs : List Value}, KVals ks vs → KVals js vs → ks = js
  | _, _, _, .nil, .nil => rfl
  | _, _, _, .cons h r, .cons g t => by rw [h.inj g, r.inj t]
theorem kvals_of : ∀ {ks : List Key} {vs : List Value}, Vals (ks.map kV) vs → KVals ks vs
  | [], _, .nil => .nil
  | .inl _ :: _, _, .cons r t => .cons r (kvals_of t)
  | .inr _ :: _, _, .cons r t => .cons r (kvals_of t)
def IsTk (h : Heap) (v : Value) (ks : List Key) : Prop := ∃ a its, v = .ref a ∧ IsTup h a its ∧ KVals ks its.toList
theorem IsTk.inj {h : Heap} {v : Value} {ks js : List Key} (x : IsTk h v ks) (y : IsTk h v js) : ks = js := by
  obtain ⟨a, its, rfl, ⟨o, ho, _, n, hd⟩, r⟩ := x
  obtain ⟨a', its', e, ⟨o', ho', _, n', hd'⟩, r'⟩ := y
  cases e
  rw [ho] at ho'
  cases ho'
  rw [hd] at hd'
  injection hd' with d1 _
  subst d1
  exact r.inj r'
theorem IsTk.keeps {h h' : Heap} {v : Value} {ks : List Key} (p : IsTk h v ks) (kp : ∀ b o, h.get? b = some o → o.cls = .type "tuple" → h'.get? b = some o) : IsTk h' v ks := by
  obtain ⟨a, its, e, ⟨o, ho, hc, n, hd⟩, r⟩ := p
  exact ⟨a, its, e, ⟨o, kp _ _ ho hc, hc, n, hd⟩, r⟩
section
open Srt
variable {prog : Program} {w : World} {A : Around} {E : Value → Shared → Prop} {s : Shared}
theorem one_lt {b : Bool} {k j : Key} {v u : Value} {Q : Bool → Shared → Prop} (hv : KVal k v) (hu : KVal j u) (ok : (k.isLeft == j.isLeft) = true) (q : Q (aLt k j) s) : wpAny (model prog w) A (oneLt' b v u) Q E s := by
  cases k with
  | inl i =>
    cases j with
    | inl m =>
      obtain ⟨t, rfl⟩ := hv
      obtain ⟨t', rfl⟩ := hu
      cases b with
      | true => exact oneLt_int q
      | false => exact PySem.W.kat_one _ _ (PyProof.Rows.lt_int (Q := PySem.W.BoolBack Q) q)
    | inr y => cases ok
  | inr x =>
    cases j with
    | inl m => cases ok
    | inr y =>
      obtain ⟨t, rfl⟩ := hv
      obtain ⟨t', rfl⟩ := hu
      cases b with
      | true => exact oneLt_str q
      | false => exact PySem.W.kat_one _ _ (PyProof.Rows.lt_str (Q := PySem.W.BoolBack Q) q)
theorem eq_one {k j : Key} {v u : Value} {Q : Bool → Shared → Prop} {b fin : Bool} {r : List (Value × Value)} {i : Nat} (hv : KVal k v) (hu : KVal j u) (ok : (k.isLeft == j.isLeft) = true)
    (h1 : k = j → PySem.W.KatLex prog w A b fin Q r (i + 1) s) (h2 : k ≠ j → wpAny (model prog w) A (oneLt' (b && i == 0) v u) Q (fun _ _ => False) s) : PySem.W.KatLex prog w A b fin Q ((v, u) :: r) i s := by
  cases k with
  | inl x =>
    cases j with
    | inr y => cases ok
    | inl y =>
      obtain ⟨t, rfl⟩ := hv
      obtain ⟨t', rfl⟩ := hu
      refine PySem.W.kat_cons (SeqAt.EqAt.int_int x t y t' prog w _ _ ?_)
      refine PySem.W.kat_go (fun e => PySem.W.kat_yes (h1 ?_)) (fun e => PySem.W.kat_no (h2 ?_))
      · rw [show x = y by simpa using e]
      · intro z; cases z; simp at e
  | inr x =>
    cases j with
    | inl y => cases ok
    | inr y =>
      obtain ⟨t, rfl⟩ := hv
      obtain ⟨t', rfl⟩ := hu
      refine PySem.W.kat_cons (SeqAt.EqAt.str_str x t y t' prog w _ _ ?_)
      refine PySem.W.kat_go (fun e => PySem.W.kat_yes (h1 ?_)) (fun e => PySem.W.kat_no (h2 ?_))
      · rw [show x = y by simpa using e]
      · intro z; cases z; simp at e
theorem lex_keys {b : Bool} {Q : Bool → Shared → Prop} : ∀ {ks js : List Key} {xs ys : List Value} (i : Nat), KVals ks xs → KVals js ys → okp ks js = true → Q (kLt ks js) s → PySem.W.KatLex prog w A b (decide (ks.length < js.length)) Q (xs.zip ys) i s
  | _, [], xs, _, i, _, .nil, _, q => by
    rw [List.zip_nil_right]
    refine PySem.W.kat_nil ?_
    simpa [kLt] using q
  | [], j :: js, _, _, i, .nil, _, _, q => by
    rw [List.zip_nil_left]
    refine PySem.W.kat_nil ?_
    simpa [kLt] using q
  | k :: ks, j :: js, x :: xs, y :: ys, i, .cons hv r, .cons hu t, ok, q => by
    rw [List.zip_cons_cons]
    unfold okp at ok
    unfold kLt at q
    have el : decide ((k :: ks).length < (j :: js).length) = decide (ks.length < js.length) := by simp
    rw [el]
    by_cases e : k = j
    · rw [if_pos e] at ok q
      refine eq_one hv hu (by rw [e]; simp) (fun _ => lex_keys (i + 1) r t ok q) fun n => (n e).elim
    · rw [if_neg e] at ok q
      exact eq_one hv hu ok (fun z => (e z).elim) fun _ => one_lt hv hu ok q
theorem tk_cmp {vs : List Value} {k : Value → List Key} (hp : ∀ v ∈ vs, IsTk s.heap v (k v)) (hok : ∀ v ∈ vs, ∀ u ∈ vs, okp (k v) (k u) = true) : SrtO.Cmp prog w A s (tuples' true) (fun p => p.1 ∈ vs) (SrtO.lt2 fun v u => kLt (k v) (k u)) := by
  intro p q hm hm'
  obtain ⟨a, its, e, ⟨o, ho, hc, n, hd⟩, r⟩ := hp _ hm
  obtain ⟨a', its', e', ⟨o', ho', hc', n', hd'⟩, r'⟩ := hp _ hm'
  rw [e, e']
  have hk := hok _ hm _ hm'
  refine PySem.W.kat_lt ho hd ho' hd' ?_
  have z : decide (its.size < its'.size) = decide ((k p.1).length < (k q.1).length) := by rw [← r.len, ← r'.len]; simp
  rw [z]
  refine lex_keys 0 r r' hk ⟨rfl, ?_⟩
  show _ = kLt (k p.1) (k q.1)
  rfl
theorem tk_firsts {h : Heap} {k : Value → List Key} {b : Bool} : ∀ {vs : List Value}, (∀ v ∈ vs, IsTk h v (k v)) → (∀ v ∈ vs, ∃ x r, k v = x :: r ∧ x.isLeft = b) → ∃ fs : List Value, PySem.W.KatTups h vs fs ∧ fs.length = vs.length ∧ ∀ f ∈ fs, ∃ x : Key, x.isLeft = b ∧ KVal x f
  | [], _, _ => ⟨[], PySem.W.KatTups.nil, rfl, fun _ hm => by simp at hm⟩
  | v :: vs, hp, hk => by
    obtain ⟨fs, h1, h2, h3⟩ := tk_firsts (vs := vs) (fun u hm => hp u (List.mem_cons_of_mem _ hm)) fun u hm => hk u (List.mem_cons_of_mem _ hm)
    obtain ⟨a, its, e, ⟨o, ho, hc, n, hd⟩, r⟩ := hp v List.mem_cons_self
    obtain ⟨x, rr, ex, hb⟩ := hk v List.mem_cons_self
    rw [ex] at r
    subst e
    cases hi : its.toList with
    | nil => rw [hi] at r; cases r
    | cons f l =>
      rw [hi] at r
      cases r with
      | cons hf hr =>
        have h0 : its[0]? = some f := by rw [← Array.getElem?_toList, hi]; rfl
        refine ⟨f :: fs, PySem.W.KatTups.cons ho hc hd h0 h1, by simp [h2], fun g hg => ?_⟩
        rcases List.mem_cons.mp hg with rfl | hg
        · exact ⟨x, hb, hf⟩
        · exact h3 g hg
theorem tk_sortable {a : Addr} {vs : List Value} {k : Value → List Key} (h2 : 2 ≤ vs.length) (hp : ∀ v ∈ vs, IsTk s.heap v (k v)) (hok : ∀ v ∈ vs, ∀ u ∈ vs, okp (k v) (k u) = true ∧ okh (k v) (k u) = true) (ha : ∀ o, s.heap.get? a = some o → o.cls ≠ .type "tuple") :
    SrtO.SortableO prog w A s a vs fun v u => kLt (k v) (k u) := by
  intro h' keep
  have hp' : ∀ v ∈ vs, IsTk h' v (k v) := fun v hm => (hp v hm).keeps fun b o e c => keep b o (fun z => by subst z; exact ha o e c) e
  obtain ⟨v0, hv0⟩ : ∃ v, v ∈ vs := by
    cases vs with
    | nil => simp at h2
    | cons v l => exact ⟨v, List.mem_cons_self⟩
  have hd : ∃ b : Bool, ∀ v ∈ vs, ∃ x r, k v = x :: r ∧ x.isLeft = b := by
    have g0 := (hok v0 hv0 v0 hv0).2
    cases e0 : k v0 with
    | nil => rw [e0] at g0; cases g0
    | cons x0 r0 =>
      refine ⟨x0.isLeft, fun v hv => ?_⟩
      have g := (hok v hv v0 hv0).2
      rw [e0] at g
      cases e : k v with
      | nil => rw [e] at g; cases g
      | cons x r =>
        rw [e] at g
        exact ⟨x, r, rfl, by simpa [okh] using g⟩
  obtain ⟨b, hd⟩ := hd
  obtain ⟨fs, h1, h3, h4⟩ := tk_firsts hp' hd
  refine ⟨tuples' true, fun Q E hq => ?_, tk_cmp hp' fun v hv u hu => (hok v hv u hu).1⟩
  cases b with
  | true =>
    refine PySem.W.kat_kind (T := .type "int") h1 (by omega) (fun f hm => ?_) (by rfl) ?_
    · obtain ⟨x, hx, hf⟩ := h4 f hm
      cases x with
      | inl i => obtain ⟨t, rfl⟩ := hf; exact PySem.W.Looks.now
      | inr i => cases hx
    · rw [show (Value.type "int" != Value.type "tuple") = true by first | decide +kernel | rfl]
      exact hq
  | false =>
    refine PySem.W.kat_kind (T := .type "str") h1 (by omega) (fun f hm => ?_) (by rfl) ?_
    · obtain ⟨x, hx, hf⟩ := h4 f hm
      cases x with
      | inr i => obtain ⟨t, rfl⟩ := hf; exact PySem.W.Looks.now
      | inl i => cases hx
    · rw [show (Value.type "str" != Value.type "tuple") = true by first | decide +kernel | rfl]
      exact hq
/-- what is collected of a tuple -/
theorem collectT {l : Addr} {vs : List Value} {Q : List Value → Shared → Prop} (ht : IsTup s.heap l vs.toArray) (hz : vs.length ≤ sizeLine)
    (h : Q vs { s with heap := (s.heap.push (seqObj "list" #[] 0)).update s.heap.objs.size (Obj.mapSeq (· ++ vs.toArray)) }) : wpAny (model prog w) A (collect (.ref l)) Q E s := by
  obtain ⟨o, ho, hc, n, hd⟩ := ht
  have ho' : (s.heap.push (seqObj "list" #[] 0)).get? l = some o := Heap.get?_push_of_some _ ho
  unfold collect
  refine wpAny_bind (wpAny_runValue (codeAny_builtin entry_proto_collect' (wpAny_bind (wpAny_newList (wpAny_pure ⟨Code.quiet_builtin _ (by decide +kernel), codeAny_builtin entry_list_iadd' ?_⟩) (Nat.zero_le _)))))
  show wpAny _ _ (Builtin.List.listExtendWith (.ref s.heap.objs.size) (.ref l) (.ref s.heap.objs.size)) _ _ { heap := s.heap.push (seqObj "list" #[] 0), gens := s.gens, drawn := s.drawn, toks := s.toks, os := s.os }
  unfold Builtin.List.listExtendWith
  refine wpAny_bind (wpAny_typeOf (T := "tuple") ⟨o, ho', hc⟩ ?_)
  rw [if_pos (by first | rfl | decide +kernel | simp)]
  refine wpAny_bind (listItems_at ho' hd (wpAny_bind (listItems_at (xs := #[]) (n := 0) (Heap.get?_push_size _ rfl) rfl ?_)))
  rw [if_neg (by simp)]
  refine wpAny_bind (listUpdate_at (xs := #[]) (n := 0) (Heap.get?_push_size _ rfl) rfl (wpAny_pure ?_) (Nat.zero_le _) (by simp only [Array.size_append, List.size_toArray]; show 0 + vs.length ≤ _; omega))
  refine wpAny_bind (wpAny_load (get?_update_seq (Heap.get?_push_size _ rfl) _) ?_)
  have e : ((#[] : Array Value) ++ vs.toArray).toList = vs := by simp
  show wpAny _ _ (pure ((#[] : Array Value) ++ vs.toArray).toList) Q E _
  rw [e]
  exact wpAny_pure h
/-- sorted of a tuple -/
theorem sortedT {l : Addr} {vs : List Value} {ltv : Value → Value → Bool} {Q : Value → Shared → Prop} (O : SrtO.Swo ltv) (ht : IsTup s.heap l vs.toArray) (hz : vs.length ≤ sizeLine)
    (hS : 2 ≤ vs.length → ∀ (h₁ : Heap) (a : Addr), h₁.get? a = some (seqObj "list" vs.toArray 0) → (∀ b o, s.heap.get? b = some o → b ≠ a ∧ h₁.get? b = some o) → SrtO.SortableO prog w A.in1.in1 { s with heap := h₁ } a vs ltv)
    (h : ∀ out : List Value, SrtO.Srtd ltv out → SrtO.Stb ltv out vs → Q (.ref (s.heap.objs.size + 1)) { s with heap := sortedAll s.heap vs out.toArray }) : wpAny (model prog w) A (call (.builtin "sorted") [.ref l]) Q E s := by
  refine Calls.call_function_entry kind_sorted plain_sorted entry_sorted (args_sorted1 _) ?go
  unfold Builtin.«sorted»
  refine wpAny_bind (m := checkCount "sorted" 1 1 _) (wpAny_pure (wpAny_bind (collectT ht hz (wpAny_bind (wpAny_newList ?_ hz)))))
  generalize e0 : (s.heap.push (seqObj "list" #[] 0)).update s.heap.objs.size (Obj.mapSeq (· ++ vs.toArray)) = h0
  have z0 : h0.objs.size = s.heap.objs.size + 1 := by rw [← e0, Heap.size_update, size_push']
  have a0 : (h0.push (seqObj "list" vs.toArray 0)).get? (s.heap.objs.size + 1) = some (seqObj "list" vs.toArray 0) := by rw [← z0]; exact Heap.get?_push_size _ rfl
  have k0 : ∀ b o, s.heap.get? b = some o → b ≠ s.heap.objs.size + 1 ∧ (h0.push (seqObj "list" vs.toArray 0)).get? b = some o := fun b o q => by
    have lt : b < s.heap.objs.size := Heap.lt_size q
    refine ⟨Nat.ne_of_lt (Nat.lt_succ_of_lt lt), Heap.get?_push_of_some _ ?_⟩
    rw [← e0, Heap.get?_update_ne _ _ _ _ (Nat.ne_of_lt lt)]
    exact Heap.get?_push_of_some _ q
  show wpAny _ _ _ _ _ { heap := h0.push (seqObj "list" vs.toArray 0), gens := s.gens, drawn := s.drawn, toks := s.toks, os := s.os }
  rw [z0]
  refine wpAny_bind (wpAny_holding (wpAny_call_entry slot_list_sort ⟨_, a0, rfl⟩ entry_list_sort (SrtO.list_sort_ord O a0 hz (fun n2 => hS n2 _ _ a0 k0) fun out hs hb => ⟨_, rfl, wpAny_pure ⟨_, rfl, ?_⟩⟩) (args_list_sort _)))
  have q := h out hs hb
  unfold sortedAll at q
  rw [e0] at q
  exact q
/-- both -/
theorem sorted_tk {l : Addr} {vs : List Value} {k : Value → List Key} {Q : Value → Shared → Prop} (hl : s.heap.IsList l vs.toArray ∨ IsTup s.heap l vs.toArray) (hz : vs.length ≤ sizeLine) (hp : ∀ v ∈ vs, IsTk s.heap v (k v)) (hok : ∀ v ∈ vs, ∀ u ∈ vs, okp (k v) (k u) = true ∧ okh (k v) (k u) = true)
    (h : ∀ (h' : Heap) (d : Addr) (out : List Value), SrtO.Srtd (fun v u => kLt (k v) (k u)) out → out.Perm vs → (∀ b o, s.heap.get? b = some o → h'.get? b = some o) → s.heap.objs.size ≤ d → (∃ n, h'.get? d = some (seqObj "list" out.toArray n)) → Q (.ref d) { s with heap := h' }) : wpAny (model prog w) A (call (.builtin "sorted") [.ref l]) Q E s := by
  have hS : 2 ≤ vs.length → ∀ (h₁ : Heap) (a : Addr), h₁.get? a = some (seqObj "list" vs.toArray 0) → (∀ b o, s.heap.get? b = some o → b ≠ a ∧ h₁.get? b = some o) → SrtO.SortableO prog w A.in1.in1 { s with heap := h₁ } a vs fun v u => kLt (k v) (k u) := fun n2 h₁ a ha kk =>
    tk_sortable (s := { s with heap := h₁ }) n2 (fun v hm => (hp v hm).keeps fun b o e _ => (kk b o e).2) hok fun o e c => by
      have e' : some o = some (seqObj "list" vs.toArray 0) := e.symm.trans ha
      cases e'
      exact absurd (Value.type.inj c) (by decide)
  have fin : ∀ out : List Value, SrtO.Srtd (fun v u => kLt (k v) (k u)) out → SrtO.Stb (fun v u => kLt (k v) (k u)) out vs → Q (.ref (s.heap.objs.size + 1)) { s with heap := sortedAll s.heap vs out.toArray } := fun out hs hb =>
    h _ _ out hs hb.perm (fun b o e => sortedAll_old e) (Nat.le_succ _) (sortedAll_at s.heap vs out.toArray)
  rcases hl with hl | hl
  · exact SrtO.sorted_ord (kLt_swo k) hl hz hS fin
  · exact sortedT (kLt_swo k) hl hz hS fin
end
/-! ### the rule -/
def rSortTk (K : PySem.W.Frag) : List V → Hp → VK → Prop := fun vs H Q => ∃ (a : Addr) (xs : List V) (kl : List (List Key)), vs = [V.ref a] ∧ (SqL K H a xs ∨ SqT K H a xs) ∧ xs.length = kl.length ∧ (∀ x k, (x, k) ∈ xs.zip kl → ∃ t, x = V.ref t ∧ SqT K H t (k.map kV)) ∧ okKs kl = true ∧
  ∀ (ys : List V) (p : Addr), ys.length = (ksort kl).length → (∀ y k, (y, k) ∈ ys.zip (ksort kl) → (y, k) ∈ xs.zip kl) → H p = none → Q (.ref p) (upd H p (.lst ys))
open Classical in
noncomputable def keyAt (h : Heap) (v : Value) : List Key := if q : ∃ ks, IsTk h v ks then q.choose else []
theorem keyAt_eq {h : Heap} {v : Value} {ks : List Key} (q : IsTk h v ks) : keyAt h v = ks := by
  have e : ∃ ks, IsTk h v ks := ⟨ks, q⟩
  unfold keyAt
  rw [dif_pos e]
  exact e.choose_spec.inj q
section
variable {X : Cx} {T : TR} {E : XK} {G : DG} {ρ : List Addr} {H : Hp} {σ : St} {aσ : AE} {st : Store}
theorem cr_sortTk : CallR X (.builtin "sorted") (rSortTk X.K) := by
  intro pins s σ H vs us Q I r h
  obtain ⟨a, xs, kl, rfl, hs, hlen, hx, hok, q⟩ := h
  obtain ⟨u, rfl, ru⟩ := vals1 r
  obtain rfl : u = Value.ref a := ru
  obtain ⟨its, rv, hl, hz⟩ : ∃ its : List Value, Vals xs its ∧ (s.heap.IsList a its.toArray ∨ IsTup s.heap a its.toArray) ∧ xs.length ≤ sizeLine := by
    rcases hs with hs | hs
    · obtain ⟨its, r, p, z⟩ := I.list hs
      exact ⟨its, r, .inl p.isList, z⟩
    · obtain ⟨its, r, p, z⟩ := I.tuple hs
      exact ⟨its, r, .inr p, z⟩
  obtain ⟨e1, e2⟩ := refs_back rv fun x m => by
    obtain ⟨i, hi, rfl⟩ := List.mem_iff_getElem.mp m
    obtain ⟨t, e, _⟩ := hx xs[i] kl[i] (List.mem_iff_getElem.mpr ⟨i, by simp; omega, by simp⟩)
    exact ⟨t, e⟩
  have hl2 : its.length = kl.length := by rw [← rv.length]; exact hlen
  -- the keys
  have key : ∀ i (hi : i < its.length), IsTk s.heap its[i] (kl[i]'(by omega)) := fun i hi => by
    obtain ⟨t, e, ht⟩ := hx (xs[i]'(by omega)) (kl[i]'(by omega)) (List.mem_iff_getElem.mpr ⟨i, by simp; omega, by simp⟩)
    obtain ⟨its2, r2, p2, _⟩ := I.tuple ht
    obtain ⟨a', ea⟩ := e2 its[i] (List.getElem_mem hi)
    have e3 : xs[i]'(by omega) = backV its[i] := by simp only [e1, List.getElem_map]
    rw [e, ea] at e3
    cases e3
    exact ⟨t, its2.toArray, ea, p2, by simpa using kvals_of r2⟩
  have ek : its.map (keyAt s.heap) = kl := by
    refine List.ext_getElem (by simpa using hl2) fun i h1 h2 => ?_
    rw [List.getElem_map]
    exact keyAt_eq (key i (by simpa using h1))
  have hmem : ∀ v ∈ its, IsTk s.heap v (keyAt s.heap v) ∧ keyAt s.heap v ∈ kl := fun v hv => by
    refine ⟨?_, by rw [← ek]; exact List.mem_map_of_mem hv⟩
    obtain ⟨i, hi, rfl⟩ := List.mem_iff_getElem.mp hv
    rw [keyAt_eq (key i hi)]
    exact key i hi
  refine sorted_tk (k := keyAt s.heap) hl (by rw [← rv.length]; exact hz) (fun v hv => (hmem v hv).1) (fun v hv u hu => ?_) fun h' d out h1 h2 kp hd hn => ?_
  · unfold okKs at hok
    simpa using List.all_eq_true.mp (List.all_eq_true.mp hok _ (hmem v hv).2) _ (hmem u hu).2
  · have h3 : ∀ u ∈ out, ∃ a, u = Value.ref a := fun u hu => e2 u (h2.mem_iff.mp hu)
    obtain ⟨n, hn⟩ := hn
    have eo : out.map (keyAt s.heap) = ksort kl := by
      refine ksort_uniq ?_ (List.pairwise_map.mpr h1)
      rw [← ek]
      exact h2.map _
    have hlo : out.length = its.length := h2.length_eq
    refine ⟨.ref d, upd H d (.lst (out.map backV)), I.laid (t' := s.toks) kp hd ⟨?_, out, n, vals_back h3, hn⟩, rfl, q _ d ?_ (fun y k hm => ?_) (I.hok.fresh hd)⟩
    · rw [List.length_map, hlo, ← rv.length]
      exact hz
    · rw [← eo]; simp
    · rw [← eo, List.zip_map'] at hm
      obtain ⟨v, hv, e⟩ := List.mem_map.mp hm
      cases e
      have hv2 := h2.mem_iff.mp hv
      rw [e1, ← ek, List.zip_map']
      exact List.mem_map_of_mem hv2
/-! ### the reading -/
def tksOf : List PV → Option (List (List Key))
  | [] => some []
  | .tup l :: r => (kOfs l).bind fun k => (tksOf r).map (k :: ·)
  | _ :: _ => none
def tkv (k : List Key) : PV := .tup (k.map kpv)
def qSrtT (xs : List PV) : M PV := fun st => match xs with
  | [x] => (match (asI x st).bind tksOf with
    | some l => if okKs l = true then .ok (.lst ((ksort l).map tkv)) st else .fail
    | none => .fail)
  | _ => .fail
theorem kOfs_back : ∀ {l : List PV} {k : List Key}, kOfs l = some k → k.map kpv = l
  | [], k, h => by simp only [kOfs, Option.some.injEq] at h; subst h; rfl
  | p :: l, k, h => by
    simp only [kOfs] at h
    obtain ⟨d, e1, h⟩ := Option.bind_eq_some_iff.mp h
    obtain ⟨ds, e2, rfl⟩ := Option.map_eq_some_iff.mp h
    rw [List.map_cons, kOfs_back e2]
    unfold kOf at e1
    split at e1 <;> cases e1 <;> rfl
theorem tks_rl : ∀ {l : List PV} {kl : List (List Key)} {xs : List V}, tksOf l = some kl → RlAll G ρ H l xs → xs.length = kl.length ∧ ∀ x k, (x, k) ∈ xs.zip kl → ∃ t, x = V.ref t ∧ SqT G.K H t (k.map kV) ∧ Rl G ρ H (tkv k) x
  | [], kl, _, h, .nil => by
    simp only [tksOf, Option.some.injEq] at h
    subst h
    exact ⟨rfl, fun x k z => by simp at z⟩
  | p :: l, kl, v :: vs, h, .cons r t => by
    cases p with
    | tup l0 =>
      simp only [tksOf] at h
      obtain ⟨k0, e1, h⟩ := Option.bind_eq_some_iff.mp h
      obtain ⟨kr, e2, rfl⟩ := Option.map_eq_some_iff.mp h
      obtain ⟨h1, h2⟩ := tks_rl e2 t
      refine ⟨by simp [h1], fun x k z => ?_⟩
      rw [List.zip_cons_cons] at z
      rcases List.mem_cons.mp z with z | z
      · cases z
        have rr := r
        cases r with
        | tup tv ra =>
          have := kOfs_v e1 ra
          subst this
          exact ⟨_, rfl, tv.sq, by unfold tkv; rw [kOfs_back e1]; exact rr⟩
      · exact h2 x k z
    | _ => simp [tksOf] at h
theorem rl_zip : ∀ {ks : List (List Key)} {ys : List V}, ys.length = ks.length → (∀ y k, (y, k) ∈ ys.zip ks → Rl G ρ H (tkv k) y) → RlAll G ρ H (ks.map tkv) ys
  | [], [], _, _ => .nil
  | [], _ :: _, h, _ => by simp at h
  | _ :: _, [], h, _ => by simp at h
  | k :: ks, y :: ys, h, z => .cons (z y k (by simp)) (rl_zip (by simpa using h) fun y' k' m => z y' k' (by simp [m]))
theorem ad_srtT : AdqL G E (rSortTk G.K) qSrtT := fun ρ H st xs vs Q hS rs h => by
  unfold qSrtT at h
  split at h
  · obtain ⟨v, rfl, r⟩ := all1 rs
    split at h
    · rename_i kl e
      split at h
      · rename_i hok
        obtain ⟨l, e1, e2⟩ := Option.bind_eq_some_iff.mp e
        obtain ⟨a, xs, rfl, rd, ra⟩ := asI_rl hS r e1
        obtain ⟨h1, h2⟩ := tks_rl e2 ra
        refine ⟨a, xs, kl, rfl, rd, h1, fun x k m => ?_, hok, fun ys p hl hm hn => ?_⟩
        · obtain ⟨t, e, s, _⟩ := h2 x k m
          exact ⟨t, e, s⟩
        · refine post_lst h hS (rl_zip hl fun y k m => ?_) hn
          obtain ⟨t, _, _, rr⟩ := h2 y k (hm y k m)
          exact rr
      · exact h.elim
    · exact h.elim
  · exact h.elim
variable {e : Expr} {pos p : Pos} {es : List Expr} {fs : DA}
theorem ev_srtT (hg : Gl X "sorted") (hm : X.mg "sorted" = none) (ha : EA X T E (e :: es) fs) (hs : starEach (e :: es) X.env = (false, eval e X.env) :: starEach es X.env := by rfl) (hpl : (backTo pos (starEach es X.env)).any (·.1) = false := by rfl) : EV X T E (.Call (.Name "sorted" p) (e :: es) [] pos) (dAl qSrtT fs) :=
  ev_bi cr_sortTk ad_srtT hg hm (by decide +kernel) ha (by decide) (by decide) hs hpl
end
end DN
set_option Elab.async false
set_option linter.all false
set_option maxRecDepth 100000
set_option maxHeartbeats 4000000
/-! K05D: what the defs compute. Printed by gen.py. -/
namespace K05
open PySem PySem.Spec PyProof.Rows L2 DN
def cl : List (Str × List Str) := [(("Refused" : Str), [("Refused" : Str), ("ValueError" : Str)]), (("BadRooms" : Str), [("BadRooms" : Str), ("Refused" : Str), ("ValueError" : Str)]), (("BadThing" : Str), [("BadThing" : Str), ("Refused" : Str), ("ValueError" : Str)]), (("BadBook" : Str), [("BadBook" : Str), ("Refused" : Str), ("ValueError" : Str)]), (("BadSaying" : Str), [("BadSaying" : Str), ("Refused" : Str), ("ValueError" : Str)]), (("BadLot" : Str), [("BadLot" : Str), ("Refused" : Str), ("ValueError" : Str)]), (("TooMany" : Str), [("TooMany" : Str), ("Refused" : Str), ("ValueError" : Str)])]
abbrev tbl : Str → Str → Option Bool := tblOf cl
noncomputable def d__law_is_told : List PV → M PV := dFn 2 4
  (sSeq (sIf (bOr (bNot (bTruth (dAl qIsI (dAc (dVar 0) (dAc (dC (.ty "tuple")) dA0))))) (bVal (d2 pNe (dAl qLen (dAc (dVar 0) dA0)) (dAl qLen (dAc (dVar 1) dA0))))) (sRet (dC (.bl false))) sNext)
  (sSeq (sFor (iRg1 (dAl qLen (dAc (dVar 1) dA0))) (tName 2) (sSeq (sIf (bOr (bNot (bTruth (dAl qIsI (dAc (d2 pIx (dVar 0) (dVar 2)) (dAc (dC (.ty "tuple")) dA0))))) (bVal (d2 pNe (d2 pIx (dVar 0) (dVar 2)) (d2 pIx (dVar 1) (dVar 2))))) (sRet (dC (.bl false))) sNext)
  (sIf (bVal (d2 pNe (dCompL (iSeq (d2 pIx (dVar 0) (dVar 2))) (tName 3) (bTruth (dAl qIsI (dAc (dVar 3) (dAc (dC (.ty "bool")) dA0)))) (dVar 3) [3] mLst) (dAl mLst dA0))) (sRet (dC (.bl false))) sNext)) [2])
  (sRet (dC (.bl true)))))
noncomputable def d__law_book : List PV → M PV := dFn 2 9
  (sSeq (sPar3 3 4 5 (dAc (dAl Lib._law_rooms (dAc (dVar 0) (dAc (dVar 1) dA0))) (dAc (dAl mLstR dA0) (dAc (d2 pEq (dAl Lib._law_take (dAc (dVar 0) (dAc (dC (.int 2)) dA0))) (dC (.int 0))) dA0))))
  (sSeq (sFor (iRg1 (dAl Lib._law_take (dAc (dVar 0) (dAc (dC (.int 12)) dA0)))) (tName 2) (sSeq (sAsg (dAl Lib._law_take (dAc (dVar 0) (dAc (dVar 1) dA0))) (tName 6))
  (sSeq (sAsg (dAl Lib._law_other (dAc (dVar 0) (dAc (dVar 6) (dAc (dVar 1) dA0)))) (tName 7))
  (sSeq (sAsg (dIf (bTruth (dVar 5)) (dAl qTup (dAc (dSl (dAl Lib._law_every (dAc (dVar 3) (dAc (dVar 6) (dAc (dVar 7) dA0)))) (oSome (dC (.int 1))) oNone) dA0)) (dAl Lib._law_lot (dAc (dVar 0) (dAc (dVar 3) (dAc (dVar 6) (dAc (dVar 7) dA0)))))) (tName 8))
  (sExpr (dM isL mAppend (dVar 4) (dAc (dAl mTup (dAc (dVar 6) (dAc (dVar 7) (dAc (dVar 8) dA0)))) dA0)))))) [2, 6, 7, 8])
  (sRet (dAl mTup (dAc (dVar 3) (dAc (dVar 4) dA0))))))
noncomputable def d__law_chain : List PV → M PV := dFn 2 8
  (sSeq (sPar3 3 4 5 (dAc (dAl Lib._law_mixed (dAc (dVar 0) (dAc (d1 qLstRg (dVar 1)) dA0))) (dAc (dAl mLstR dA0) (dAc (dAl Lib._law_rooms (dAc (dVar 0) (dAc (dVar 1) dA0))) dA0))))
  (sSeq (sFor (iRg1 (d2 pSub (dVar 1) (dC (.int 1)))) (tName 2) (sSeq (sPar 6 7 (dAc (d2 pIx (dVar 3) (dVar 2)) (dAc (d2 pIx (dVar 3) (d2 pAdd (dVar 2) (dC (.int 1)))) dA0)))
  (sExpr (dM isL mAppend (dVar 4) (dAc (dAl mTup (dAc (dVar 6) (dAc (dVar 7) (dAc (dAl qTup (dAc (dSl (dAl Lib._law_every (dAc (dVar 5) (dAc (dVar 6) (dAc (dVar 7) dA0)))) (oSome (dC (.int 1))) oNone) dA0)) dA0)))) dA0)))) [2, 6, 7])
  (sRet (dAl mTup (dAc (dVar 5) (dAc (dAl Lib._law_mixed (dAc (dVar 0) (dAc (dVar 4) dA0))) dA0))))))
noncomputable def d__law_closed : List PV → M PV := dFn 2 7
  (sSeq (sAsg (dCompL (iSeq (dVar 1)) (tName 3) bYes (dAl mLst (dAc (dVar 3) dA0)) [3] mLst) (tName 2))
  (sSeq (sFor (iSeq (dVar 0)) (tTupP 2 (tCons (tName 3) (tCons (tName 4) tNil))) (sIf (bAnd (bVal (d2 pIn (dVar 3) (dVar 1))) (bVal (d2 pIn (dVar 4) (dVar 1)))) (sSeq (sAsg (dAl mLst dA0) (tName 5))
  (sSeq (sFor (iSeq (dVar 2)) (tName 6) (sIf (bOr (bVal (d2 pIn (dVar 3) (dVar 6))) (bVal (d2 pIn (dVar 4) (dVar 6)))) (sAsg (d2 pAdd (dVar 5) (dVar 6)) (tName 5)) sNext) [6])
  (sAsg (d2 pAdd (dCompL (iSeq (dVar 2)) (tName 6) (bAnd (bVal (d2 pNotIn (dVar 3) (dVar 6))) (bVal (d2 pNotIn (dVar 4) (dVar 6)))) (dVar 6) [6] mLst) (dAl mLst (dAc (dVar 5) dA0))) (tName 2)))) sNext) [3, 4, 5, 6])
  (sRet (dAl qTup (dAc (dAl qSrtT (dAc (dCompL (iSeq (dVar 2)) (tName 6) bYes (dAl qTup (dAc (dAl qSrtI (dAc (dVar 6) dA0)) dA0)) [6] mLst) dA0)) dA0)))))
noncomputable def d__law_lots_right : List PV → M PV := dFn 4 14
  (sSeq (sPar 9 10 (dAc (dAl mTup (dAc (dVar 1) (dAc (dAl qTup (dAc (dVar 2) dA0)) dA0))) (dAc (dAl qLen (dAc (dVar 1) dA0)) dA0)))
  (sSeq (sAsg (dCompL (iSeq (dVar 2)) (tName 12) (bVal (d2 pNotIn (dAl mTup (dAc (dC (.str ("apart" : Str))) (dAc (dC (.int 0)) dA0))) (d2 pIx (dVar 12) (dC (.int 2))))) (dAl mTup (dAc (d2 pIx (dVar 12) (dC (.int 0))) (dAc (d2 pIx (dVar 12) (dC (.int 1))) dA0))) [12] mLst) (tName 4))
  (sSeq (sAsg (dAl qTup (dAc (dCompL (iRg1 (dVar 10)) (tName 7) (bVal (d2 pGt (dAl Lib._law_take (dAc (dVar 0) (dAc (dC (.int 4)) dA0))) (dC (.int 0)))) (dVar 7) [7] mLst) dA0)) (tName 5))
  (sSeq (sAsg (d2 pAddR (dAl mLst (dAc (d1 qTupRg (dVar 10)) (dAc (dAl mTup dA0) (dAc (dVar 5) dA0)))) (dCompL (iRg1 (dAl qMin (dAc (dVar 10) (dAc (dC (.int 4)) dA0)))) (tName 7) bYes (dAl mTup (dAc (dVar 7) dA0)) [7] mLst)) (tName 6))
  (sSeq (sFor (iSeq (dSl (dVar 5) oNone (oSome (dC (.int 4))))) (tName 7) (sExpr (dM isL mAppend (dVar 6) (dAc (dAl qTup (dAc (dCompL (iSeq (dVar 5)) (tName 13) (bVal (d2 pNe (dVar 13) (dVar 7))) (dVar 13) [13] mLst) dA0)) dA0))) [7])
  (sSeq (sFor (iSeq (dVar 6)) (tName 8) (sSeq (sAsg (dAl d__law_closed (dAc (dVar 4) (dAc (dVar 8) dA0))) (tName 11))
  (sSeq (sIf (bNot (bTruth (dAl d__law_is_told (dAc (dAl Lib.parts (dAc (dVar 9) (dAc (dVar 8) dA0))) (dAc (dVar 11) dA0))))) (sRet (dC (.bl false))) sNext)
  (sSeq (sExpr (dAl Lib.parts (dAc (dVar 3) (dAc (dAl mTup (dAc (dC (.int 0)) (dAc (dC (.int 1)) dA0))) dA0))))
  (sIf (bNot (bTruth (dAl d__law_is_told (dAc (dAl Lib.parts (dAc (dVar 9) (dAc (dVar 8) dA0))) (dAc (dVar 11) dA0))))) (sRet (dC (.bl false))) sNext)))) [8, 11])
  (sRet (dC (.bl true)))))))))
noncomputable def d__law_refused : List PV → M PV := dFn 2 3
  (sSeq (sTry tbl 3 (sExpr (dAl Lib.parts (dAc (dVar 0) (dAc (dVar 1) dA0)))) [(("BadLot" : Str), some 2, (sRet (dAnd (d2 pEq (dWhat (dVar 2)) (d1 pNeg (dC (.int 1)))) (dNot (dAl (qIsE tbl) (dAc (dVar 2) (dAc (dC (.con ("BadThing" : Str))) dA0))))))), (("Refused" : Str), some 2, (sRet (dC (.bl false))))])
  (sRet (dC (.bl false))))
noncomputable def d_law : List PV → M PV := dFn 1 10
  (sSeq (sAsg (dAl Lib._law_every (dAc (dAl mTup (dAc (dC (.int 1)) (dAc (dC (.int 1)) dA0))) (dAc (dC (.int 0)) (dAc (dC (.int 1)) dA0)))) (tName 1))
  (sSeq (sPar 3 4 (dAc (dAl mTup (dAc (dAl mTup (dAc (dC (.int 1)) (dAc (dC (.int 1)) dA0))) (dAc (dAl mTup (dAc (dAl mTup (dAc (dC (.int 0)) (dAc (dC (.int 1)) (dAc (dAl qTup (dAc (dSl (dVar 1) (oSome (dC (.int 1))) oNone) dA0)) dA0)))) dA0)) dA0))) (dAc (dAl mTup (dAc (dAl mTup (dAc (dC (.int 1)) (dAc (dC (.int 1)) dA0))) (dAc (dAl mTup (dAc (dAl mTup (dAc (dC (.int 0)) (dAc (dC (.int 1)) (dAc (dAl mTup (dAc (d2 pIx (dVar 1) (dC (.int 0))) dA0)) dA0)))) dA0)) dA0))) dA0)))
  (sSeq (sIf (bOr (bNot (bTruth (dAl d__law_is_told (dAc (dAl Lib.parts (dAc (dVar 3) (dAc (dAl mTup (dAc (dC (.int 0)) (dAc (dC (.int 1)) dA0))) dA0))) (dAc (dAl mTup (dAc (dAl mTup (dAc (dC (.int 0)) (dAc (dC (.int 1)) dA0))) dA0)) dA0))))) (bNot (bTruth (dAl d__law_is_told (dAc (dAl Lib.parts (dAc (dVar 4) (dAc (dAl mTup (dAc (dC (.int 0)) (dAc (dC (.int 1)) dA0))) dA0))) (dAc (dAl mTup (dAc (dAl mTup (dAc (dC (.int 0)) dA0)) (dAc (dAl mTup (dAc (dC (.int 1)) dA0)) dA0))) dA0)))))) (sRet (dC (.bl false))) sNext)
  (sSeq (sFor (iRg1 (dAl qMax (dAc (dC (.int 1)) (dAc (dAl qMin (dAc (dAl qLen (dAc (dVar 0) dA0)) (dAc (dC (.int 6)) dA0))) dA0)))) (tName 2) (sSeq (sAsg (dAl Lib._law_pool (dAc (dVar 0) (dAc (dVar 2) dA0))) (tName 5))
  (sSeq (sAsg (dIf (bVal (d2 pEq (dAl Lib._law_take (dAc (dVar 5) (dAc (dC (.int 8)) dA0))) (dC (.int 0)))) (dC (.int 24)) (d2 pAdd (dC (.int 2)) (dAl Lib._law_take (dAc (dVar 5) (dAc (dC (.int 8)) dA0))))) (tName 6))
  (sSeq (sAsg (dIf (bVal (d2 pGt (dAl Lib._law_take (dAc (dVar 5) (dAc (dC (.int 3)) dA0))) (dC (.int 0)))) (dAl d__law_book (dAc (dVar 5) (dAc (dVar 6) dA0))) (dAl d__law_chain (dAc (dVar 5) (dAc (dVar 6) dA0)))) (tTupP 2 (tCons (tName 8) (tCons (tName 9) tNil))))
  (sSeq (sIf (bNot (bTruth (dAl d__law_lots_right (dAc (dVar 5) (dAc (dVar 8) (dAc (dVar 9) (dAc (dVar 3) dA0))))))) (sRet (dC (.bl false))) sNext)
  (sSeq (sAsg (dAl mLst (dAc (dAl mTup (dAc (dC (.int 0)) (dAc (dC (.int 0)) dA0))) (dAc (dAl mTup (dAc (dC (.int 1)) (dAc (dC (.int 0)) dA0))) (dAc (dAl mTup (dAc (dVar 6) dA0)) (dAc (dAl mTup (dAc (d1 pNeg (dC (.int 1))) dA0)) (dAc (dAl mTup (dAc (dC (.int 0)) (dAc (dVar 6) dA0))) (dAc (dC (.int 0)) (dAc (dAl mTup (dAc (d2 pSub (dVar 6) (dC (.int 1))) (dAc (dC (.int 0)) dA0))) (dAc (dAl mTup (dAc (dAl mTup (dAc (dC (.int 0)) dA0)) dA0)) dA0))))))))) (tName 7))
  (sIf (bNot (bTruth (dAl d__law_refused (dAc (dAl mTup (dAc (dVar 8) (dAc (dAl qTup (dAc (dVar 9) dA0)) dA0))) (dAc (dAl Lib._law_one (dAc (dVar 5) (dAc (dVar 7) dA0))) dA0))))) (sRet (dC (.bl false))) sNext)))))) [2, 5, 6, 8, 9, 7])
  (sRet (dC (.bl true)))))))
end K05
set_option Elab.async false
set_option linter.all false
set_option maxRecDepth 100000
set_option maxHeartbeats 2000000
/-! DnWp: reasoning about what a def computes. -/
namespace DN
open PySem PySem.Spec PyProof.Rows L2
/-- what follows an exception -/
abbrev EP := Str → PV → Store → Prop
abbrev EF : EP := fun _ _ _ => False
@[irreducible] def wpX {α : Type} (X : EP) (r : Res α) (Q : α → Store → Prop) : Prop := match r with
  | .ok a st => Q a st
  | .exc c w st => X c w st
  | .fail => False
@[simp] theorem B64_eq : B64 = 18446744073709551616 := rfl
@[simp] theorem B200_eq : B200 = 1606938044258990275541962092341162602522202993782792835301376 := rfl
@[simp] theorem SZ_lit : SZ = 16777216 := rfl
/-- by a test's outcome -/
def cnd (b : Bool) (P Q : Prop) : Prop := (b = true → P) ∧ (b = false → Q)
@[simp] theorem cnd_true {P Q : Prop} : cnd true P Q = P := by simp [cnd]
@[simp] theorem cnd_false {P Q : Prop} : cnd false P Q = Q := by simp [cnd]
theorem cnd_pos {b : Bool} {P Q : Prop} (h : b = true) : cnd b P Q = P := by rw [h, cnd_true]
theorem cnd_neg {b : Bool} {P Q : Prop} (h : b = false) : cnd b P Q = Q := by rw [h, cnd_false]
@[simp] theorem cnd_not {b : Bool} {P Q : Prop} : cnd (!b) P Q = cnd b Q P := by cases b <;> simp
/-- a statement: what follows, what is returned, behind a break, a continue -/
@[irreducible] def wpsX (X : EP) (s : Res (Fl × AE)) (N : AE → Store → Prop) (R : PV → Store → Prop) (B C : AE → Store → Prop) : Prop := match s with
  | .ok (.nx, σ) st => N σ st
  | .ok (.rt v, _) st => R v st
  | .ok (.bk, σ) st => B σ st
  | .ok (.ct, σ) st => C σ st
  | .exc c w st => X c w st
  | .fail => False
variable {Xp : EP}
def par2 (ps : List PV) (k : PV → PV → Prop) : Prop := match ps with
  | [p, q] => k p q
  | _ => False
def par3 (ps : List PV) (k : PV → PV → PV → Prop) : Prop := match ps with
  | [p, q, r] => k p q r
  | _ => False
@[simp] theorem par2_two {p q : PV} {k : PV → PV → Prop} : par2 [p, q] k = k p q := rfl
@[simp] theorem par3_three {p q r : PV} {k : PV → PV → PV → Prop} : par3 [p, q, r] k = k p q r := rfl
theorem nwF {α : Type} {Q : α → Store → Prop} (h : (wpX Xp) (.fail : Res α) Q) : False := by unfold wpX at h; exact h
theorem wp_exc {α : Type} {Q : α → Store → Prop} {c : Str} {w : PV} {st : Store} : (wpX Xp) (.exc c w st : Res α) Q = Xp c w st := by unfold wpX; rfl
section
variable {N : AE → Store → Prop} {R : PV → Store → Prop} {B C : AE → Store → Prop} {σ : AE} {st : Store} {v : PV}
theorem nwsF (h : (wpsX Xp) .fail N R B C) : False := by unfold wpsX at h; exact h
theorem wps_exc {c : Str} {w : PV} : (wpsX Xp) (.exc c w st) N R B C = Xp c w st := by unfold wpsX; rfl
theorem wps_nx : (wpsX Xp) (.ok (.nx, σ) st) N R B C = N σ st := by unfold wpsX; rfl
theorem wps_bk : (wpsX Xp) (.ok (.bk, σ) st) N R B C = B σ st := by unfold wpsX; rfl
theorem wps_ct : (wpsX Xp) (.ok (.ct, σ) st) N R B C = C σ st := by unfold wpsX; rfl
theorem wps_rt : (wpsX Xp) (.ok (.rt v, σ) st) N R B C = R v st := by unfold wpsX; rfl
end
section
variable {α β : Type} {Q Q' : α → Store → Prop} {st : Store} {σ : AE}
theorem wp_mono {r : Res α} (h : (wpX Xp) r Q) (i : ∀ a st, Q a st → Q' a st) : (wpX Xp) r Q' := by
  unfold wpX at h ⊢
  cases r with
  | ok a st => exact i _ _ h
  | exc _ _ _ => exact h
  | fail => exact h
theorem wp_ok_of {r : Res α} (h : wpX EF r Q) : ∃ a st, r = .ok a st ∧ Q a st := by
  unfold wpX at h
  cases r with
  | ok a st => exact ⟨a, st, rfl, h⟩
  | exc _ _ _ => exact h.elim
  | fail => exact h.elim
theorem wp_of {r : Res α} {a : α} {st : Store} (h : r = .ok a st) (q : Q a st) : (wpX Xp) r Q := by rw [h]; unfold wpX; exact q
@[simp] theorem wp_ok {a : α} : (wpX Xp) (.ok a st) Q = Q a st := by unfold wpX; rfl
@[simp] theorem wp_fail : (wpX Xp) (.fail : Res α) Q = False := by unfold wpX; rfl
@[simp] theorem wp_bind {r : Res β} {k : β → Store → Res α} : (wpX Xp) (r.bind k) Q = (wpX Xp) r fun a st => (wpX Xp) (k a st) Q := by cases r <;> (unfold wpX; rfl)
theorem wp_ite {c : Prop} [Decidable c] {a b : Res α} : (wpX Xp) (if c then a else b) Q = if c then (wpX Xp) a Q else (wpX Xp) b Q := by split <;> rfl
@[simp] theorem wp_ite_fail {c : Prop} [Decidable c] {a : Res α} : (wpX Xp) (if c then a else .fail) Q = (c ∧ (wpX Xp) a Q) := by
  by_cases h : c <;> simp [h]
@[simp] theorem wp_ite_b {b : Bool} {x y : Res α} : (wpX Xp) (if b = true then x else y) Q = cnd b ((wpX Xp) x Q) ((wpX Xp) y Q) := by cases b <;> simp
end
section
variable {Q : PV → Store → Prop} {QB : Bool → Store → Prop} {QA : List PV → Store → Prop} {st : Store} {σ : AE} {f g h : DE} {c e : DB} {fs : DA}
@[simp] theorem wp_var {i : Nat} : (wpX Xp) (dVar i σ st) Q = ∃ v, σ[i]? = some (some v) ∧ Q v st := by
  unfold dVar
  cases q : σ[i]? with
  | none => simp
  | some o => cases o <;> simp
@[simp] theorem wp_c {v : PV} : (wpX Xp) (dC v σ st) Q = Q v st := by unfold wpX; rfl
@[simp] theorem wp_d1 {d : PV → M PV} : (wpX Xp) (d1 d f σ st) Q = (wpX Xp) (f σ st) fun x st => (wpX Xp) (d x st) Q := by simp [d1]
@[simp] theorem wp_d2 {d : PV → PV → M PV} : (wpX Xp) (d2 d f g σ st) Q = (wpX Xp) (f σ st) fun x st => (wpX Xp) (g σ st) fun y st => (wpX Xp) (d x y st) Q := by simp [d2]
@[simp] theorem wp_a0 : (wpX Xp) (dA0 σ st) QA = QA [] st := by unfold wpX; rfl
@[simp] theorem wp_ac : (wpX Xp) (dAc f fs σ st) QA = (wpX Xp) (f σ st) fun x st => (wpX Xp) (fs σ st) fun xs st => QA (x :: xs) st := by simp [dAc]
@[simp] theorem wp_al {d : List PV → M PV} : (wpX Xp) (dAl d fs σ st) Q = (wpX Xp) (fs σ st) fun xs st => (wpX Xp) (d xs st) Q := by simp [dAl]
@[simp] theorem wp_tB_bl {b : Bool} : (wpX Xp) (tB (.bl b) st) QB = QB b st := by unfold wpX; rfl
theorem wp_tB {p : PV} : (wpX Xp) (tB p st) QB = ∃ b, p = .bl b ∧ QB b st := by cases p <;> simp [tB]
@[simp] theorem wp_bVal : (wpX Xp) (bVal f σ st) QB = (wpX Xp) (f σ st) fun p st => (wpX Xp) (tB p st) QB := by simp [bVal]
@[simp] theorem wp_bNot : (wpX Xp) (bNot c σ st) QB = (wpX Xp) (c σ st) fun b st => QB (!b) st := by simp [bNot]
@[simp] theorem wp_bAnd : (wpX Xp) (bAnd c e σ st) QB = (wpX Xp) (c σ st) fun b st => cnd b ((wpX Xp) (e σ st) QB) (QB false st) := by
  simp only [bAnd, wp_bind]
  congr 1; funext b st; cases b <;> simp
@[simp] theorem wp_bOr : (wpX Xp) (bOr c e σ st) QB = (wpX Xp) (c σ st) fun b st => cnd b (QB true st) ((wpX Xp) (e σ st) QB) := by
  simp only [bOr, wp_bind]
  congr 1; funext b st; cases b <;> simp
@[simp] theorem wp_bTruth : (wpX Xp) (bTruth f σ st) QB = (wpX Xp) (f σ st) fun p st => (wpX Xp) (pTruth p st) QB := by simp [bTruth]
@[simp] theorem wp_dIf : (wpX Xp) (dIf c f g σ st) Q = (wpX Xp) (c σ st) fun b st => cnd b ((wpX Xp) (f σ st) Q) ((wpX Xp) (g σ st) Q) := by
  simp only [dIf, wp_bind]
  congr 1; funext b st; cases b <;> simp
@[simp] theorem wp_dAnd : (wpX Xp) (dAnd f g σ st) Q = (wpX Xp) (f σ st) fun p st => (wpX Xp) (tB p st) fun b st => cnd b ((wpX Xp) (g σ st) Q) (Q (.bl false) st) := by
  simp only [dAnd, wp_bind]
  congr 1; funext p st; congr 1; funext b st; cases b <;> simp
@[simp] theorem wp_dOr : (wpX Xp) (dOr f g σ st) Q = (wpX Xp) (f σ st) fun p st => (wpX Xp) (tB p st) fun b st => cnd b (Q (.bl true) st) ((wpX Xp) (g σ st) Q) := by
  simp only [dOr, wp_bind]
  congr 1; funext p st; congr 1; funext b st; cases b <;> simp
@[simp] theorem wp_dNot : (wpX Xp) (dNot f σ st) Q = (wpX Xp) (f σ st) fun p st => (wpX Xp) (tB p st) fun b st => Q (.bl (!b)) st := by simp [dNot]
@[simp] theorem wp_chain {d d' : PV → PV → M PV} : (wpX Xp) (dChain d d' f g h σ st) Q = (wpX Xp) (f σ st) fun x st => (wpX Xp) (g σ st) fun y st => (wpX Xp) (d x y st) fun p st => (wpX Xp) (tB p st) fun k st => cnd k ((wpX Xp) (h σ st) fun z st => (wpX Xp) (d' y z st) Q) (Q (.bl false) st) := by
  simp only [dChain, wp_bind]
  congr 1; funext x st; congr 1; funext y st; congr 1; funext p st; congr 1; funext k st; cases k <;> simp
/-! operators on numbers -/
@[simp] theorem wp_addI {i j : Int} : (wpX Xp) (pAdd (.int i) (.int j) st) Q = Q (.int (i + j)) st := by unfold wpX; rfl
@[simp] theorem wp_subI {i j : Int} : (wpX Xp) (pSub (.int i) (.int j) st) Q = Q (.int (i - j)) st := by unfold wpX; rfl
@[simp] theorem wp_mulI {i j : Int} : (wpX Xp) (pMul (.int i) (.int j) st) Q = (((-B64 < i ∧ i < B64) ∨ (-B64 < j ∧ j < B64)) ∧ Q (.int (i * j)) st) := by simp [pMul]
@[simp] theorem wp_divI {i j : Int} : (wpX Xp) (pDiv (.int i) (.int j) st) Q = ((0 < j ∧ j < B200) ∧ Q (.int (i / j)) st) := by simp [pDiv]
@[simp] theorem wp_modI {i j : Int} : (wpX Xp) (pMod (.int i) (.int j) st) Q = (0 < j ∧ Q (.int (i % j)) st) := by simp [pMod]
@[simp] theorem wp_powI {i j : Int} : (wpX Xp) (pPow (.int i) (.int j) st) Q = ((0 ≤ j ∧ j ≤ 1000 ∧ -B64 < i ∧ i < B64) ∧ Q (.int (i ^ j.toNat)) st) := by simp [pPow]
@[simp] theorem wp_negI {i : Int} : (wpX Xp) (pNeg (.int i) st) Q = Q (.int (-i)) st := by unfold wpX; rfl
@[simp] theorem wp_ltI {f : Int → Int → Bool} {i j : Int} : (wpX Xp) (pLtI f (.int i) (.int j) st) Q = Q (.bl (f i j)) st := by unfold wpX; rfl
@[simp] theorem wp_eqII {i j : Int} : (wpX Xp) (pEq (.int i) (.int j) st) Q = Q (.bl (decide (i = j))) st := by unfold wpX; rfl
@[simp] theorem wp_neII {i j : Int} : (wpX Xp) (pNe (.int i) (.int j) st) Q = Q (.bl (!decide (i = j))) st := by unfold wpX; rfl
@[simp] theorem wp_eqSS {x y : Str} : (wpX Xp) (pEq (.str x) (.str y) st) Q = Q (.bl (decide (x = y))) st := by unfold wpX; rfl
@[simp] theorem wp_neSS {x y : Str} : (wpX Xp) (pNe (.str x) (.str y) st) Q = Q (.bl (!decide (x = y))) st := by unfold wpX; rfl
@[simp] theorem wp_isN {x : PV} : (wpX Xp) (pIs x .non st) Q = Q (.bl (isNon x)) st := by unfold wpX; rfl
@[simp] theorem wp_isNotN {x : PV} : (wpX Xp) (pIsNot x .non st) Q = Q (.bl (!isNon x)) st := by unfold wpX; rfl
@[simp] theorem isNon_non : isNon .non = true := rfl
@[simp] theorem isNon_tup {l} : isNon (.tup l) = false := rfl
@[simp] theorem isNon_int {l} : isNon (.int l) = false := rfl
@[simp] theorem isNon_bl {l} : isNon (.bl l) = false := rfl
@[simp] theorem isNon_str {l} : isNon (.str l) = false := rfl
@[simp] theorem isNon_lst {l} : isNon (.lst l) = false := rfl
@[simp] theorem wp_maxII {i j : Int} : (wpX Xp) (qMax [.int i, .int j] st) Q = Q (.int (if j > i then j else i)) st := by unfold wpX; rfl
@[simp] theorem wp_minII {i j : Int} : (wpX Xp) (qMin [.int i, .int j] st) Q = Q (.int (if j < i then j else i)) st := by unfold wpX; rfl
@[simp] theorem wp_intI {i : Int} : (wpX Xp) (qInt [.int i] st) Q = Q (.int i) st := by unfold wpX; rfl
@[simp] theorem wp_intB {b : Bool} : (wpX Xp) (qInt [.bl b] st) Q = Q (.int (if b = true then 1 else 0)) st := by unfold wpX; rfl
@[simp] theorem wp_lenT {l : List PV} : (wpX Xp) (qLen [.tup l] st) Q = Q (.int l.length) st := by unfold wpX; rfl
@[simp] theorem wp_lenL {l : List PV} : (wpX Xp) (qLen [.lst l] st) Q = Q (.int l.length) st := by unfold wpX; rfl
@[simp] theorem wp_lenS {l : List PV} : (wpX Xp) (qLen [.scr l] st) Q = Q (.int l.length) st := by unfold wpX; rfl
@[simp] theorem wp_tupT {l : List PV} : (wpX Xp) (qTup [.tup l] st) Q = Q (.tup l) st := by unfold wpX; rfl
@[simp] theorem wp_tupL {l : List PV} : (wpX Xp) (qTup [.lst l] st) Q = Q (.tup l) st := by unfold wpX; rfl
@[simp] theorem wp_lstL {l : List PV} : (wpX Xp) (qLst [.lst l] st) Q = Q (.lst l) st := by unfold wpX; rfl
@[simp] theorem wp_lstT {l : List PV} : (wpX Xp) (qLst [.tup l] st) Q = Q (.lst l) st := by unfold wpX; rfl
@[simp] theorem wp_lstRL {l : List PV} : (wpX Xp) (qLstR [.lst l] st) Q = Q (.ref st.length) (st ++ [.lst l]) := by unfold wpX; rfl
@[simp] theorem wp_lstRT {l : List PV} : (wpX Xp) (qLstR [.tup l] st) Q = Q (.ref st.length) (st ++ [.lst l]) := by unfold wpX; rfl
@[simp] theorem wp_mTup {l : List PV} : (wpX Xp) (mTup l st) Q = (l.length ≤ SZ ∧ Q (.tup l) st) := by simp [mTup]
@[simp] theorem wp_mLst {l : List PV} : (wpX Xp) (mLst l st) Q = (l.length ≤ SZ ∧ Q (.lst l) st) := by simp [mLst]
@[simp] theorem wp_mLstR {l : List PV} : (wpX Xp) (mLstR l st) Q = (l.length ≤ SZ ∧ Q (.ref st.length) (st ++ [.lst l])) := by simp [mLstR]
@[simp] theorem wp_ixT {l : List PV} {i : Int} : (wpX Xp) (pIx (.tup l) (.int i) st) Q = ∃ v, atI l i = some v ∧ Q v st := by
  simp only [pIx, dGet]
  cases atI l i <;> simp
@[simp] theorem wp_ixL {l : List PV} {i : Int} : (wpX Xp) (pIx (.lst l) (.int i) st) Q = ∃ v, atI l i = some v ∧ Q v st := by
  simp only [pIx, dGet, asR, asL]
  cases atI l i <;> simp
@[simp] theorem wp_ixS {l : List PV} {i : Int} : (wpX Xp) (pIx (.scr l) (.int i) st) Q = ∃ v, atI l i = some v ∧ Q v st := by
  simp only [pIx, dGet, asR]
  cases atI l i <;> simp
theorem wp_ixR {l : List PV} {i : Int} {n : Nat} (hn : st[n]? = some (.lst l)) : (wpX Xp) (pIx (.ref n) (.int i) st) Q = ∃ v, atI l i = some v ∧ Q v st := by
  simp only [pIx, dGet, asR, asL, hn]
  cases atI l i <;> simp
theorem wp_lenR {l : List PV} {n : Nat} (hn : st[n]? = some (.lst l)) : (wpX Xp) (qLen [.ref n] st) Q = Q (.int l.length) st := by
  simp only [qLen, hn, wp_ok]
theorem wp_tupR {l : List PV} {n : Nat} (hn : st[n]? = some (.lst l)) : (wpX Xp) (qTup [.ref n] st) Q = Q (.tup l) st := by
  simp only [qTup, asL, hn, wp_ok]
@[simp] theorem wp_addT {x y : List PV} : (wpX Xp) (pAdd (.tup x) (.tup y) st) Q = (x.length + y.length ≤ SZ ∧ Q (.tup (x ++ y)) st) := by simp [pAdd]
@[simp] theorem wp_addL {x y : List PV} : (wpX Xp) (pAdd (.lst x) (.lst y) st) Q = (x.length + y.length ≤ SZ ∧ Q (.lst (x ++ y)) st) := by simp [pAdd, asL]
@[simp] theorem wp_truthB {b : Bool} : (wpX Xp) (pTruth (.bl b) st) QB = QB b st := by unfold wpX; rfl
@[simp] theorem wp_dSl {a b : DO} : (wpX Xp) (dSl f a b σ st) Q = (wpX Xp) (f σ st) fun x st => (wpX Xp) (a σ st) fun lo st => (wpX Xp) (b σ st) fun hi st => (wpX Xp) (pSl x lo hi st) Q := by simp [dSl]
@[simp] theorem wp_oNone {QO : Option Int → Store → Prop} : (wpX Xp) (oNone σ st) QO = QO none st := by unfold wpX; rfl
@[simp] theorem wp_oSome {QO : Option Int → Store → Prop} : (wpX Xp) (oSome f σ st) QO = (wpX Xp) (f σ st) fun p st => ∃ i, p = .int i ∧ QO (some i) st := by
  simp only [oSome, wp_bind]
  congr 1; funext p st; cases p <;> simp
@[simp] theorem wp_slT {l : List PV} {lo hi : Option Int} : (wpX Xp) (pSl (.tup l) lo hi st) Q = Q (.tup (cut l lo hi)) st := by unfold wpX; rfl
@[simp] theorem wp_slL {l : List PV} {lo hi : Option Int} : (wpX Xp) (pSl (.lst l) lo hi st) Q = Q (.lst (cut l lo hi)) st := by unfold wpX; rfl
/-! statements -/
variable {N : AE → Store → Prop} {R : PV → Store → Prop} {B C : AE → Store → Prop} {s t : DS}
@[simp] theorem wps_next : (wpsX Xp) (sNext σ st) N R B C = N σ st := by unfold wpsX; rfl
@[simp] theorem wps_break : (wpsX Xp) (sBreak σ st) N R B C = B σ st := by unfold wpsX; rfl
@[simp] theorem wps_cont : (wpsX Xp) (sCont σ st) N R B C = C σ st := by unfold wpsX; rfl
@[simp] theorem wps_seq : (wpsX Xp) (sSeq s t σ st) N R B C = (wpsX Xp) (s σ st) (fun σ st => (wpsX Xp) (t σ st) N R B C) R B C := by
  unfold sSeq
  cases s σ st with
  | ok r st => obtain ⟨fl, σ⟩ := r; cases fl <;> (unfold wpsX; (try unfold wpX); rfl)
  | exc _ _ _ => (unfold wpsX; (try unfold wpX); rfl)
  | fail => (unfold wpsX; (try unfold wpX); rfl)
@[simp] theorem wps_expr : (wpsX Xp) (sExpr f σ st) N R B C = (wpX Xp) (f σ st) fun _ st => N σ st := by
  unfold sExpr
  cases f σ st <;> (unfold wpsX; (try unfold wpX); rfl)
@[simp] theorem wps_ret : (wpsX Xp) (sRet f σ st) N R B C = (wpX Xp) (f σ st) fun v st => R v st := by
  unfold sRet
  cases f σ st <;> (unfold wpsX; (try unfold wpX); rfl)
@[simp] theorem wps_retN : (wpsX Xp) (sRetN σ st) N R B C = R .non st := by unfold wpsX; rfl
@[simp] theorem wps_fail : (wpsX Xp) (sFail σ st) N R B C = False := by unfold wpsX; rfl
@[simp] theorem wps_if : (wpsX Xp) (sIf c s t σ st) N R B C = (wpX Xp) (c σ st) fun b st => cnd b ((wpsX Xp) (s σ st) N R B C) ((wpsX Xp) (t σ st) N R B C) := by
  unfold sIf
  cases c σ st with
  | ok b st => cases b <;> simp [Res.bind]
  | exc _ _ _ => (unfold wpsX; (try unfold wpX); rfl)
  | fail => (unfold wpsX; (try unfold wpX); rfl)
@[simp] theorem wps_asg {t : DT} : (wpsX Xp) (sAsg f t σ st) N R B C = (wpX Xp) (f σ st) fun p st => (wpX Xp) (t p σ st) fun σ st => N σ st := by
  unfold sAsg
  cases f σ st with
  | ok b st => simp only [Res.bind, wp_ok]; cases t b σ st <;> (unfold wpsX; (try unfold wpX); rfl)
  | exc _ _ _ => (unfold wpsX; (try unfold wpX); rfl)
  | fail => (unfold wpsX; (try unfold wpX); rfl)
@[simp] theorem wps_par {i j : Nat} : (wpsX Xp) (sPar i j fs σ st) N R B C = (wpX Xp) (fs σ st) fun ps st => par2 ps fun p q => N ((σ.set i (some p)).set j (some q)) st := by
  unfold sPar
  cases fs σ st with
  | ok ps st =>
    simp only [Res.bind, wp_ok]
    match ps with
    | [] => (unfold wpsX; (try unfold wpX); rfl)
    | [p] => (unfold wpsX; (try unfold wpX); rfl)
    | [p, q] => (unfold wpsX; (try unfold wpX); rfl)
    | p :: q :: r :: l => (unfold wpsX; (try unfold wpX); rfl)
  | exc _ _ _ => (unfold wpsX; (try unfold wpX); rfl)
  | fail => (unfold wpsX; (try unfold wpX); rfl)
@[simp] theorem wps_par3 {i j k : Nat} : (wpsX Xp) (sPar3 i j k fs σ st) N R B C = (wpX Xp) (fs σ st) fun ps st => par3 ps fun p q r => N (((σ.set i (some p)).set j (some q)).set k (some r)) st := by
  unfold sPar3
  cases fs σ st with
  | ok ps st =>
    simp only [Res.bind, wp_ok]
    match ps with
    | [] => (unfold wpsX; (try unfold wpX); rfl)
    | [p] => (unfold wpsX; (try unfold wpX); rfl)
    | [p, q] => (unfold wpsX; (try unfold wpX); rfl)
    | [p, q, r] => (unfold wpsX; (try unfold wpX); rfl)
    | p :: q :: r :: u :: l => (unfold wpsX; (try unfold wpX); rfl)
  | exc _ _ _ => (unfold wpsX; (try unfold wpX); rfl)
  | fail => (unfold wpsX; (try unfold wpX); rfl)
theorem wps_ite {c : Prop} [Decidable c] {a b : Res (Fl × AE)} : (wpsX Xp) (if c then a else b) N R B C = if c then (wpsX Xp) a N R B C else (wpsX Xp) b N R B C := by split <;> rfl
theorem wps_mono {r : Res (Fl × AE)} {N' : AE → Store → Prop} {R' : PV → Store → Prop} {B' C' : AE → Store → Prop} (h : (wpsX Xp) r N R B C) (n : ∀ σ st, N σ st → N' σ st) (rr : ∀ v st, R v st → R' v st) (b : ∀ σ st, B σ st → B' σ st) (c : ∀ σ st, C σ st → C' σ st) : (wpsX Xp) r N' R' B' C' := by
  unfold wpsX at h ⊢
  cases r with
  | ok r st =>
    obtain ⟨fl, σ⟩ := r
    cases fl
    · exact n _ _ h
    · exact b _ _ h
    · exact c _ _ h
    · exact rr _ _ h
  | exc _ _ _ => exact h
  | fail => exact h
/-! targets -/
variable {QE : AE → Store → Prop}
@[simp] theorem wp_tName {i : Nat} {p : PV} : (wpX Xp) (tName i p σ st) QE = QE (σ.set i (some p)) st := by unfold wpX; rfl
@[simp] theorem wp_tNil : (wpX Xp) (tNil [] σ st) QE = QE σ st := by unfold wpX; rfl
@[simp] theorem wp_tCons {t : DT} {ts : DTs} {p : PV} {ps : List PV} : (wpX Xp) (tCons t ts (p :: ps) σ st) QE = (wpX Xp) (t p σ st) fun σ st => (wpX Xp) (ts ps σ st) QE := by simp [tCons]
@[simp] theorem wp_tTupP {n : Nat} {ts : DTs} {l : List PV} : (wpX Xp) (tTupP n ts (.tup l) σ st) QE = (l.length = n ∧ (wpX Xp) (ts l σ st) QE) := by simp [tTupP]
@[simp] theorem wp_tSub {fo fi : DE} {p : PV} : (wpX Xp) (tSub fo fi p σ st) QE = (wpX Xp) (fo σ st) fun o st => (wpX Xp) (fi σ st) fun i st => (wpX Xp) (pSet o i p st) fun _ st => QE σ st := by simp [tSub]
/-! loops -/
theorem wps_forL {t : DT} {b : DS} {w : List Nat} (I : List PV → AE → Store → Prop) : ∀ (l : List PV) (σ : AE) (st : Store), I l σ st →
    (∀ p r σ st, I (p :: r) σ st → (wpX Xp) (t p σ st) fun σ1 st1 => (wpsX Xp) (b σ1 st1) (fun σ2 st2 => I r (wipeA σ2 w) st2) R (fun σ2 st2 => N (wipeA σ2 w) st2) (fun σ2 st2 => I r (wipeA σ2 w) st2)) → (∀ σ st, I [] σ st → N (wipeA σ w) st) →
    (wpsX Xp) (forL t b w (fun _ => true) l σ st) N R B C
  | [], σ, st, h, _, hf => by
    unfold forL
    rw [if_pos rfl]
    exact wps_nx.mpr (hf σ st h)
  | p :: r, σ, st, h, hs, hf => by
    unfold forL
    rw [if_pos rfl]
    have h1 := hs p r σ st h
    cases q : t p σ st with
    | ok σ1 st1 =>
      rw [q] at h1
      simp only [wp_ok] at h1
      simp only [Res.bind]
      cases q2 : b σ1 st1 with
      | ok r' st2 =>
        rw [q2] at h1
        obtain ⟨fl, σ2⟩ := r'
        cases fl with
        | nx => have h2 := wps_nx.mp h1; exact wps_forL I r _ _ h2 hs hf
        | ct => have h2 := wps_ct.mp h1; exact wps_forL I r _ _ h2 hs hf
        | bk => have h2 := wps_bk.mp h1; exact wps_nx.mpr h2
        | rt v => have h2 := wps_rt.mp h1; exact wps_rt.mpr h2
      | exc _ _ _ => rw [q2, wps_exc] at h1; exact wps_exc.mpr h1
      | fail => rw [q2] at h1; exact (nwsF h1).elim
    | exc _ _ _ => rw [q, wp_exc] at h1; exact wps_exc.mpr h1
    | fail => rw [q] at h1; exact (nwF h1).elim
theorem rgP_cons {a b : Int} (h : a < b) : rgP a b = .int a :: rgP (a + 1) b := by
  unfold rgP
  have e : (b - a).toNat = (b - (a + 1)).toNat + 1 := by omega
  rw [e, List.range_succ_eq_map]
  rw [List.map_cons, List.map_map]
  have e0 : a + ((0 : Nat) : Int) = a := by omega
  rw [e0]
  congr 1
  refine List.map_congr_left fun i _ => ?_
  simp only [Function.comp, PV.int.injEq]
  omega
theorem rgP_nil {a b : Int} (h : b ≤ a) : rgP a b = [] := by
  unfold rgP
  rw [show (b - a).toNat = 0 by omega]
  rfl
/-- a walk over numbers -/
theorem wps_forR {t : DT} {b : DS} {w : List Nat} {hi : Int} (I : Int → AE → Store → Prop) (hs : ∀ i σ st, I i σ st → i < hi → (wpX Xp) (t (.int i) σ st) fun σ1 st1 => (wpsX Xp) (b σ1 st1) (fun σ2 st2 => I (i + 1) (wipeA σ2 w) st2) R (fun σ2 st2 => N (wipeA σ2 w) st2) (fun σ2 st2 => I (i + 1) (wipeA σ2 w) st2))
    (hf : ∀ i σ st, I i σ st → hi ≤ i → N (wipeA σ w) st) : ∀ (lo : Int) (σ : AE) (st : Store), I lo σ st → (wpsX Xp) (forL t b w (fun _ => true) (rgP lo hi) σ st) N R B C := fun lo σ st h => by
  refine wps_forL (fun l σ st => ∃ i, l = rgP i hi ∧ I i σ st) _ σ st ⟨lo, rfl, h⟩ ?_ ?_
  · rintro p r σ st ⟨i, e, h⟩
    by_cases hi' : i < hi
    · rw [rgP_cons hi'] at e
      cases e
      refine wp_mono (hs i σ st h hi') fun σ1 st1 h => ?_
      exact wps_mono h (fun σ st h => ⟨_, rfl, h⟩) (fun _ _ h => h) (fun _ _ h => h) (fun σ st h => ⟨_, rfl, h⟩)
    · rw [rgP_nil (by omega)] at e
      cases e
  · rintro σ st ⟨i, e, h⟩
    by_cases hi' : i < hi
    · rw [rgP_cons hi'] at e
      cases e
    · exact hf i σ st h (by omega)
@[simp] theorem wps_for {s : DI} {t : DT} {b : DS} {w : List Nat} : (wpsX Xp) (sFor s t b w σ st) N R B C = (wpX Xp) (s σ st) fun r st => (wpsX Xp) (forL t b w r.2 r.1 σ st) N R B C := by
  unfold sFor
  cases s σ st <;> (unfold wpsX; unfold wpX; rfl)
variable {QI : Src → Store → Prop}
@[simp] theorem wp_iRg1 : (wpX Xp) (iRg1 f σ st) QI = (wpX Xp) (f σ st) fun p st => ∃ n, p = .int n ∧ rgOk n = true ∧ QI (rgP 0 n, fun _ => true) st := by
  simp only [iRg1, wp_bind]
  congr 1; funext p st; cases p <;> simp
@[simp] theorem wp_iRg2 : (wpX Xp) (iRg2 f g σ st) QI = (wpX Xp) (f σ st) fun p st => (wpX Xp) (g σ st) fun q st => ∃ a b, p = .int a ∧ q = .int b ∧ rgOk a = true ∧ rgOk b = true ∧ QI (rgP a b, fun _ => true) st := by
  simp only [iRg2, wp_bind]
  congr 1; funext p st; congr 1; funext q st; cases p <;> cases q <;> simp [and_assoc]
@[simp] theorem wp_iSeq : (wpX Xp) (iSeq f σ st) QI = (wpX Xp) (f σ st) fun p st => (wpX Xp) (srcOf p st) QI := by simp [iSeq]
@[simp] theorem wp_srcT {l : List PV} : (wpX Xp) (srcOf (.tup l) st) QI = QI (l, fun _ => true) st := by unfold wpX; rfl
@[simp] theorem wp_srcL {l : List PV} : (wpX Xp) (srcOf (.lst l) st) QI = QI (l, fun _ => true) st := by unfold wpX; rfl
@[simp] theorem wp_iEn : (wpX Xp) (iEn f σ st) QI = (wpX Xp) (f σ st) fun p st => (wpX Xp) (srcEn p st) QI := by simp [iEn]
@[simp] theorem wp_enT {l : List PV} : (wpX Xp) (srcEn (.tup l) st) QI = QI (numbered 0 l, fun _ => true) st := by unfold wpX; rfl
@[simp] theorem wp_enL {l : List PV} : (wpX Xp) (srcEn (.lst l) st) QI = QI (numbered 0 l, fun _ => true) st := by unfold wpX; rfl
theorem rgOk_small {i : Int} (h0 : -1000000 ≤ i) (h1 : i ≤ 1000000) : rgOk i = true := by
  unfold rgOk
  rw [decide_eq_true_eq]
  omega
/-! comprehensions -/
@[simp] theorem wp_comp {s : DI} {t : DT} {c : DB} {e : DE} {w : List Nat} {m : List PV → M PV} : (wpX Xp) (dCompL s t c e w m σ st) Q = (wpX Xp) (s σ st) fun r st => (wpX Xp) (lcI t c e r.2 (wipeA σ w) r.1 st) fun vs st => (wpX Xp) (m vs st) Q := by simp [dCompL]
@[simp] theorem wp_noX {α : Type} {Q : α → Store → Prop} {r : Res α} : (wpX Xp) (noX r) Q = wpX EF r Q := by cases r <;> (unfold wpX; rfl)
theorem wp_lcI {t : DT} {c : DB} {e : DE} {QL : List PV → Store → Prop} (I : List PV → List PV → Store → Prop) : ∀ (l : List PV) (st : Store), I [] l st →
    (∀ acc p r st, I acc (p :: r) st → wpX EF (t p σ st) fun σ1 st1 => wpX EF (c σ1 st1) fun b st2 => cnd b (wpX EF (e σ1 st2) fun v st3 => I (acc ++ [v]) r st3) (I acc r st2)) → (∀ acc st, I acc [] st → QL acc st) → (wpX Xp) (lcI t c e (fun _ => true) σ l st) QL := by
  have key : ∀ (l : List PV) (st : Store) (acc : List PV), I acc l st → (∀ acc p r st, I acc (p :: r) st → wpX EF (t p σ st) fun σ1 st1 => wpX EF (c σ1 st1) fun b st2 => cnd b (wpX EF (e σ1 st2) fun v st3 => I (acc ++ [v]) r st3) (I acc r st2)) →
      (wpX Xp) (lcI t c e (fun _ => true) σ l st) fun vs st => I (acc ++ vs) [] st := by
    intro l
    induction l with
    | nil =>
      intro st acc h _
      unfold lcI
      rw [if_pos rfl]
      simpa using h
    | cons p r ih =>
      intro st acc h hs
      unfold lcI
      rw [if_pos rfl]
      simp only [wp_bind, wp_noX]
      refine wp_mono (hs acc p r st h) fun σ1 st1 h => wp_mono h fun b st2 h => ?_
      cases b with
      | true =>
        simp only [cnd_true, if_true, wp_bind, wp_noX] at h ⊢
        refine wp_mono h fun v st3 h => wp_mono (ih st3 _ h hs) fun vs st4 h => ?_
        simpa using h
      | false =>
        simp only [cnd_false, Bool.false_eq_true, if_false] at h ⊢
        exact ih st2 acc h hs
  intro l st h hs hf
  refine wp_mono (key l st [] h hs) fun vs st h => hf vs st (by simpa using h)
/-- the store stays as it is -/
theorem wp_lcP {t : DT} {c : DB} {e : DE} {QL : List PV → Store → Prop} (g : PV → Option PV) (l : List PV)
    (hs : ∀ p ∈ l, wpX EF (t p σ st) fun σ1 st1 => wpX EF (c σ1 st1) fun b st2 => cnd b (wpX EF (e σ1 st2) fun v st3 => st3 = st ∧ g p = some v) (st2 = st ∧ g p = none)) (hf : QL (l.filterMap g) st) : (wpX Xp) (lcI t c e (fun _ => true) σ l st) QL := by
  refine wp_lcI (fun acc r st' => st' = st ∧ acc ++ r.filterMap g = l.filterMap g ∧ ∀ p ∈ r, p ∈ l) l st ⟨rfl, by simp, fun p h => h⟩ ?_ ?_
  · rintro acc p r st' ⟨rfl, h1, h2⟩
    refine wp_mono (hs p (h2 p List.mem_cons_self)) fun σ1 st1 h => wp_mono h fun b st2 h => ?_
    cases b with
    | true =>
      simp only [cnd_true] at h ⊢
      refine wp_mono h fun v st3 h => ⟨h.1, ?_, fun q hq => h2 q (List.mem_cons_of_mem _ hq)⟩
      rw [← h1, List.filterMap_cons, h.2]
      simp
    | false =>
      simp only [cnd_false, Bool.false_eq_true, if_false] at h ⊢
      refine ⟨h.1, ?_, fun q hq => h2 q (List.mem_cons_of_mem _ hq)⟩
      rw [← h1, List.filterMap_cons, h.2]
  · rintro acc st' ⟨rfl, h1, _⟩
    simp only [List.filterMap_nil, List.append_nil] at h1
    rw [h1]
    exact hf
end
end DN
set_option Elab.async false
set_option linter.all false
set_option maxRecDepth 100000
set_option maxHeartbeats 2000000
/-! DnWp2: what a def lets go; lists that change; the draws of a law. -/
namespace DN
open PySem PySem.Spec PyProof.Rows L2
variable {Xp : EP}
/-! ### values without objects -/
mutual
def cl : PV → Bool
  | .ref _ => false
  | .tup l => cls l
  | .lst l => cls l
  | .scr l => cls l
  | .err _ w => cl w
  | .dK _ l => cls l
  | .dT _ l => cls l
  | .non => true
  | .bl _ => true
  | .int _ => true
  | .str _ => true
  | .con _ => true
  | .ty _ => true
def cls : List PV → Bool
  | [] => true
  | p :: ps => cl p && cls ps
end
mutual
theorem mapV_cl {g : Nat → Option PV} : ∀ {p : PV}, cl p = true → mapV g p = some p
  | .ref n, h => by simp [cl] at h
  | .tup l, h => by simp only [cl] at h; simp only [mapV, mapVs_cl h, Option.map_some]
  | .lst l, h => by simp only [cl] at h; simp only [mapV, mapVs_cl h, Option.map_some]
  | .scr l, h => by simp only [cl] at h; simp only [mapV, mapVs_cl h, Option.map_some]
  | .err _ w, h => by simp only [cl] at h; simp only [mapV, mapV_cl h, Option.map_some]
  | .dK _ l, h => by simp only [cl] at h; simp only [mapV, mapVs_cl h, Option.map_some]
  | .dT _ l, h => by simp only [cl] at h; simp only [mapV, mapVs_cl h, Option.map_some]
  | .non, _ => by simp only [mapV]
  | .bl _, _ => by simp only [mapV]
  | .int _, _ => by simp only [mapV]
  | .str _, _ => by simp only [mapV]
  | .con _, _ => by simp only [mapV]
  | .ty _, _ => by simp only [mapV]
theorem mapVs_cl {g : Nat → Option PV} : ∀ {l : List PV}, cls l = true → mapVs g l = some l
  | [], _ => by simp only [mapVs]
  | p :: ps, h => by
    simp only [cls, Bool.and_eq_true] at h
    simp only [mapVs, mapV_cl h.1, mapVs_cl h.2, Option.bind_some, Option.map_some]
end
@[simp] theorem cl_int {i} : cl (.int i) = true := by simp [cl]
@[simp] theorem cl_str {i} : cl (.str i) = true := by simp [cl]
@[simp] theorem cl_non : cl .non = true := by simp [cl]
@[simp] theorem cl_bl {i} : cl (.bl i) = true := by simp [cl]
@[simp] theorem cl_tup {l} : cl (.tup l) = cls l := by simp [cl]
@[simp] theorem cl_lst {l} : cl (.lst l) = cls l := by simp [cl]
@[simp] theorem cl_dT {k l} : cl (.dT k l) = cls l := by simp [cl]
@[simp] theorem cl_dK {k l} : cl (.dK k l) = cls l := by simp [cl]
@[simp] theorem cls_nil : cls [] = true := by simp [cls]
@[simp] theorem cls_cons {p l} : cls (p :: l) = (cl p && cls l) := by simp [cls]
theorem cls_iff : ∀ {l : List PV}, cls l = true ↔ ∀ p ∈ l, cl p = true
  | [] => by simp
  | p :: l => by simp [cls_iff (l := l)]
@[simp] theorem cls_append {l m : List PV} : cls (l ++ m) = (cls l && cls m) := by
  rw [Bool.eq_iff_iff]
  simp only [cls_iff, Bool.and_eq_true, List.mem_append]
  exact ⟨fun h => ⟨fun p hp => h p (.inl hp), fun p hp => h p (.inr hp)⟩, fun h p hp => hp.elim (h.1 p) (h.2 p)⟩
@[simp] theorem cls_ints {l : List Int} : cls (l.map PV.int) = true := cls_iff.mpr fun p hp => by
  obtain ⟨i, _, rfl⟩ := List.mem_map.mp hp
  simp
theorem clip_cl {k : Nat} {st : Store} {p : PV} (h : cl p = true) : clip k st p = some p := mapV_cl h
/-! ### the end of a def -/
def Gc (st : Store) (v : PV) (st' : Store) (Q : PV → Store → Prop) : Prop := ∃ v' s, clip st.length st' v = some v' ∧ gcS st.length st' st st' = some s ∧ Q v' s
section
variable {Q : PV → Store → Prop} {st st' x : Store} {junk : List SO} {v : PV} {n m k s : Nat} {f : DS} {ps : List PV}
/-- an exception that leaves a def -/
def gx (st : Store) (X : EP) : EP := fun c w st' => Gc st w st' (X c)
theorem gx_eq {X : EP} {c : Str} {w : PV} {st' : Store} : gx st X c w st' = Gc st w st' (X c) := rfl
theorem wp_dFn (hl : ps.length = n) (h : wpsX (gx st Xp) (f (ps.map some ++ List.replicate (m - n) none) st) (fun _ st' => Gc st .non st' Q) (fun v st' => Gc st v st' Q) (fun _ _ => False) (fun _ _ => False)) : (wpX Xp) (dFn n m f ps st) Q := by
  unfold dFn dFnK
  rw [if_pos hl]
  cases q : f (ps.map some ++ List.replicate (m - n) none) st with
  | ok r st' =>
    rw [q] at h
    obtain ⟨fl, σ⟩ := r
    unfold wpsX at h
    cases fl with
    | nx =>
      obtain ⟨v', s, h1, h2, h3⟩ := h
      simp only [Res.bind, gcR, h1, h2, wp_ok]
      exact h3
    | bk => exact h.elim
    | ct => exact h.elim
    | rt v =>
      obtain ⟨v', s, h1, h2, h3⟩ := h
      simp only [Res.bind, gcR, h1, h2, wp_ok]
      exact h3
  | exc c w st' =>
    rw [q, wps_exc] at h
    obtain ⟨v', s, h1, h2, h3⟩ := h
    simp only [Res.bind, gcR, h1, h2]
    exact wp_exc.mpr h3
  | fail => rw [q] at h; exact (nwsF h).elim
theorem wp_fn (h : wpsX (gx st Xp) (f (ps.map some ++ List.replicate (m - n) none) st) (fun _ st' => Gc st .non st' Q) (fun v st' => Gc st v st' Q) (fun _ _ => False) (fun _ _ => False)) (hl : ps.length = n := by rfl) : (wpX Xp) (dFn n m f ps st) Q := wp_dFn hl h
theorem wp_dFnK (hl : ps.length = n) (h : (wpsX Xp) (f (ps.map some ++ List.replicate (m - n) none) st) (fun _ st' => Q .non st') Q (fun _ _ => False) (fun _ _ => False)) : (wpX Xp) (dFnK n m f ps st) Q := by
  unfold dFnK
  rw [if_pos hl]
  cases q : f (ps.map some ++ List.replicate (m - n) none) st with
  | ok r st' =>
    rw [q] at h
    obtain ⟨fl, σ⟩ := r
    unfold wpsX at h
    cases fl with
    | nx => exact wp_ok.mpr h
    | bk => exact h.elim
    | ct => exact h.elim
    | rt v => exact wp_ok.mpr h
  | exc c w st' => rw [q, wps_exc] at h; exact wp_exc.mpr h
  | fail => rw [q] at h; exact (nwsF h).elim
theorem gcS_of : ∀ {l x : List SO} {junk : List SO}, x.length = l.length → (∀ (n : Nat) (o o' : SO), l[n]? = some o → x[n]? = some o' → o = o' ∨ clipO k st' o' = some o') → gcS k st' l (x ++ junk) = some x
  | [], [], junk, _, _ => by simp [gcS]
  | [], _ :: _, _, h, _ => by cases h
  | _ :: _, [], _, h, _ => by cases h
  | o :: l, o' :: x, junk, h, hn => by
    have ih := gcS_of (l := l) (x := x) (junk := junk) (by simpa using h) fun n u u' h1 h2 => hn (n + 1) u u' (by simpa using h1) (by simpa using h2)
    have h0 := hn 0 o o' rfl rfl
    simp only [List.cons_append, gcS, ih, Option.map_some]
    have e : gcO k st' o o' = some o' := by
      unfold gcO
      rcases h0 with rfl | h0
      · rw [if_pos rfl]
      · by_cases q : o = o'
        · rw [if_pos q, q]
        · rw [if_neg q]; exact h0
    rw [e]
    rfl
theorem gcS_app {junk : List SO} : gcS k st' st (st ++ junk) = some st := gcS_of rfl fun n o o' h1 h2 => .inl (by rw [h1] at h2; cases h2; rfl)
theorem Gc.pure (hc : cl v = true) (e : st' = st ++ junk) (q : Q v st) : Gc st v st' Q := by
  subst e
  exact ⟨v, st, clip_cl hc, gcS_app, q⟩
theorem Gc.same (hc : cl v = true) (q : Q v st) : Gc st v st Q := Gc.pure (junk := []) hc (by simp) q
theorem Gc.lstP {l : List PV} (hc : cls l = true) (e : st' = st ++ junk) (hn : st.length ≤ n) (hl : st'[n]? = some (.lst l)) (q : Q (.lst l) st) : Gc st (.ref n) st' Q := by
  subst e
  refine ⟨.lst l, st, ?_, gcS_app, q⟩
  simp only [clip, mapV, clipR, if_neg (Nat.not_lt.mpr hn), hl, mapVs_cl hc, Option.map_some]

/-! ### the draws -/
/-- the source at s -/
def SrcAt (st : Store) (s : Nat) : Prop := ∃ a b : Int, st[s]? = some (.lst [.int a, .int b]) ∧ 0 ≤ a ∧ 0 ≤ b
/-- nothing but the source at s is changed -/
def Dr (s : Nat) (st st' : Store) : Prop := st' = st ∨ ∃ a b : Int, 0 ≤ a ∧ 0 ≤ b ∧ st' = st.set s (.lst [.int a, .int b])
theorem SrcAt.lt (h : SrcAt st s) : s < st.length := by
  obtain ⟨a, b, e, _⟩ := h
  exact (List.getElem?_eq_some_iff.mp e).1
theorem Dr.refl : Dr s st st := .inl rfl
theorem Dr.trans {st2 : Store} (h : Dr s st st') (g : Dr s st' st2) : Dr s st st2 := by
  rcases h with rfl | ⟨a, b, h1, h2, rfl⟩
  · exact g
  · rcases g with rfl | ⟨c, d, h3, h4, rfl⟩
    · exact .inr ⟨a, b, h1, h2, rfl⟩
    · exact .inr ⟨c, d, h3, h4, by rw [List.set_set]⟩
theorem Dr.len (h : Dr s st st') : st'.length = st.length := by
  rcases h with rfl | ⟨a, b, h1, h2, rfl⟩
  · rfl
  · simp
theorem Dr.src (hs : SrcAt st s) (h : Dr s st st') : SrcAt st' s := by
  rcases h with rfl | ⟨a, b, h1, h2, rfl⟩
  · exact hs
  · exact ⟨a, b, by rw [List.getElem?_set_self hs.lt], h1, h2⟩
theorem Dr.get (h : Dr s st st') (hn : n ≠ s) : st'[n]? = st[n]? := by
  rcases h with rfl | ⟨a, b, h1, h2, rfl⟩
  · rfl
  · rw [List.getElem?_set_ne (Ne.symm hn)]
theorem SrcAt.app (hs : SrcAt st s) : SrcAt (st ++ junk) s := by
  obtain ⟨a, b, e, h⟩ := hs
  exact ⟨a, b, by rw [List.getElem?_append_left (List.getElem?_eq_some_iff.mp e).1]; exact e, h⟩
theorem Dr.app (hl : s < x.length) (h : Dr s (x ++ junk) st') : ∃ x', st' = x' ++ junk ∧ Dr s x x' := by
  rcases h with rfl | ⟨a, b, h1, h2, rfl⟩
  · exact ⟨x, rfl, .refl⟩
  · exact ⟨_, by rw [List.set_append_left _ _ hl], .inr ⟨a, b, h1, h2, rfl⟩⟩
theorem gcS_dr (h : Dr s st x) : gcS k st' st (x ++ junk) = some x := gcS_of h.len fun n o o' h1 h2 => by
  rcases h with rfl | ⟨a, b, h3, h4, rfl⟩
  · exact .inl (by rw [h1] at h2; cases h2; rfl)
  · by_cases e : s = n
    · subst e
      rw [List.getElem?_set_self (List.getElem?_eq_some_iff.mp h1).1] at h2
      cases h2
      exact .inr (by simp [clipO, mapVs, mapV])
    · rw [List.getElem?_set_ne e] at h2
      exact .inl (by rw [h1] at h2; cases h2; rfl)
theorem Gc.dr (hc : cl v = true) (h : Dr s st x) (e : st' = x ++ junk) (q : Q v x) : Gc st v st' Q := by
  subst e
  exact ⟨v, x, clip_cl hc, gcS_dr h, q⟩
theorem Gc.dr0 (hc : cl v = true) (h : Dr s st st') (q : Q v st') : Gc st v st' Q := Gc.dr (junk := []) hc h (by simp) q
theorem Gc.lst {l : List PV} (hc : cls l = true) (h : Dr s st x) (e : st' = x ++ junk) (hn : st.length ≤ n) (hl : st'[n]? = some (.lst l)) (q : Q (.lst l) x) : Gc st (.ref n) st' Q := by
  subst e
  refine ⟨.lst l, x, ?_, gcS_dr h, q⟩
  simp only [clip, mapV, clipR, if_neg (Nat.not_lt.mpr hn), hl, mapVs_cl hc, Option.map_some]
theorem Gc.dT {es : List (List Key × PV)} (hc : cls (es.map (·.2)) = true) (h : Dr s st x) (e : st' = x ++ junk) (hn : st.length ≤ n) (hl : st'[n]? = some (.dT es)) (q : Q (.dT (es.map (·.1)) (es.map (·.2))) x) : Gc st (.ref n) st' Q := by
  subst e
  refine ⟨_, x, ?_, gcS_dr h, q⟩
  simp only [clip, mapV, clipR, if_neg (Nat.not_lt.mpr hn), hl, mapVs_cl hc, Option.map_some]

/-! ### lists that change -/
theorem app_get (h : x.length = k) {i : Nat} : (x ++ junk)[k + i]? = junk[i]? := by
  rw [List.getElem?_append_right (by omega)]
  congr 1
  omega
theorem app_get0 (h : x.length = k) : (x ++ junk)[k]? = junk[0]? := app_get (i := 0) h
theorem app_set (h : x.length = k) {i : Nat} {o : SO} : (x ++ junk).set (k + i) o = x ++ junk.set i o := by
  rw [List.set_append_right _ _ (by omega)]
  congr 2
  omega
theorem app_set0 (h : x.length = k) {o : SO} : (x ++ junk).set k o = x ++ junk.set 0 o := app_set (i := 0) h
theorem app_pre (h : n < x.length) : (x ++ junk)[n]? = x[n]? := List.getElem?_append_left h
variable {σ : AE} {g : DE} {fs : DA}
@[simp] theorem wp_dM {chk : PV → Store → Bool} {d : PV → List PV → M PV} : (wpX Xp) (dM chk d g fs σ st) Q = (wpX Xp) (g σ st) fun x st => chk x st = true ∧ (wpX Xp) (fs σ st) fun xs st => (wpX Xp) (d x xs st) Q := by
  simp only [dM, wp_bind]
  congr 1; funext x st
  by_cases h : chk x st = true <;> simp [h]
@[simp] theorem wp_dM0 {chk : PV → Store → Bool} {d : PV → List PV → M PV} : (wpX Xp) (dM0 chk d g σ st) Q = (wpX Xp) (g σ st) fun x st => chk x st = true ∧ (wpX Xp) (d x [] st) Q := by
  simp only [dM0, wp_bind]
  congr 1; funext x st
  by_cases h : chk x st = true <;> simp [h]
theorem isL_ref {l : List PV} (h : st[n]? = some (.lst l)) : isL (.ref n) st = true := by simp [isL, asL, h]
theorem wp_append {l : List PV} {y : PV} (h : st[n]? = some (.lst l)) (hz : l.length < SZ) (q : Q .non (st.set n (.lst (l ++ [y])))) : (wpX Xp) (mAppend (.ref n) [y] st) Q := by
  simp only [mAppend, refL, h]
  rw [if_pos hz]
  exact wp_ok.mpr q
theorem wp_extend {l m : List PV} {y : PV} (h : st[n]? = some (.lst l)) (hy : asL y st = some m) (hz : l.length + m.length ≤ SZ) (q : Q .non (st.set n (.lst (l ++ m)))) : (wpX Xp) (mExtend (.ref n) [y] st) Q := by
  simp only [mExtend, refL, h, hy]
  rw [if_pos hz]
  exact wp_ok.mpr q
theorem wp_setL {l : List PV} {i : Int} {y : PV} {j : Nat} {QU : Unit → Store → Prop} (h : st[n]? = some (.lst l)) (hj : ixN l.length i = some j) (q : QU () (st.set n (.lst (l.set j y)))) : (wpX Xp) (pSet (.ref n) (.int i) y st) QU := by
  simp only [pSet, h, hj]
  exact wp_ok.mpr q
theorem ixN_nat {n i : Nat} (h : i < n) : ixN n (i : Int) = some i := by
  unfold ixN
  rw [if_pos (by omega), if_pos (by omega)]
  simp
theorem ixN_int {n : Nat} {i : Int} (h0 : 0 ≤ i) (h : i < n) : ixN n i = some i.toNat := by
  unfold ixN
  rw [if_pos h0, if_pos h]
theorem atI_int {α : Type} {l : List α} {i : Int} (h0 : 0 ≤ i) (h : i < l.length) : atI l i = l[i.toNat]? := by
  unfold atI
  rw [ixN_int h0 h]
  rfl
theorem atI_some {α : Type} {l : List α} {i : Int} (h0 : 0 ≤ i) (h : i < l.length) : ∃ v, atI l i = some v ∧ v ∈ l ∧ l[i.toNat]? = some v := by
  have hl : i.toNat < l.length := by omega
  exact ⟨l[i.toNat], by rw [atI_int h0 h, List.getElem?_eq_getElem hl], List.getElem_mem hl, List.getElem?_eq_getElem hl⟩
@[simp] theorem atI_zero {α : Type} {a : α} {l : List α} : atI (a :: l) 0 = some a := by
  rw [atI_int (by omega) (by simp only [List.length_cons]; omega)]
  rfl
@[simp] theorem atI_one {α : Type} {a b : α} {l : List α} : atI (a :: b :: l) 1 = some b := by
  rw [atI_int (by omega) (by simp only [List.length_cons]; omega)]
  rfl
@[simp] theorem atI_two {α : Type} {a b c : α} {l : List α} : atI (a :: b :: c :: l) 2 = some c := by
  rw [atI_int (by omega) (by simp only [List.length_cons]; omega)]
  rfl
end
end DN
set_option Elab.async false
set_option linter.all false
set_option maxRecDepth 100000
set_option maxHeartbeats 2000000
/-! DnWp3: data: ==, in. -/
namespace DN
open PySem PySem.Spec PyProof.Rows L2
variable {Xp : EP}
/-- data without truths, n deep at most -/
def dpv : Nat → PV → Bool
  | _, .non => true
  | _, .int _ => true
  | _, .str x => PyData.strOk x
  | n + 1, .tup l => l.all (dpv n)
  | n + 1, .lst l => l.all (dpv n)
  | _, _ => false
theorem toD0s_of {R : PyData → Prop} {l : List PV} (h : ∀ p ∈ l, ∃ d, toD0 p = some d ∧ R d) : ∃ ds, toD0s l = some ds ∧ ∀ d ∈ ds, R d := by
  induction l with
  | nil => exact ⟨[], by simp [toD0s], by simp⟩
  | cons p l ih =>
    obtain ⟨d, e1, r1⟩ := h p List.mem_cons_self
    obtain ⟨ds, e2, r2⟩ := ih fun q hq => h q (List.mem_cons_of_mem _ hq)
    exact ⟨d :: ds, by simp [toD0s, e1, e2], by simpa using ⟨r1, r2⟩⟩
theorem canLayAll_of {n : Nat} : ∀ {ds : List PyData}, (∀ d ∈ ds, PyData.canLay0 d = true ∧ PyData.depth d ≤ n) → PyData.canLayAll0 ds = true ∧ PyData.depthAll ds ≤ n
  | [], _ => by simp [PyData.canLayAll0, PyData.depthAll]
  | d :: ds, h => by
    have a := h d List.mem_cons_self
    have ih := canLayAll_of (ds := ds) fun q hq => h q (List.mem_cons_of_mem _ hq)
    simp only [PyData.canLayAll0, PyData.depthAll, a.1, ih.1, Bool.and_self, true_and]
    exact Nat.max_le.mpr ⟨a.2, ih.2⟩
theorem dpv_d : ∀ (n : Nat) (p : PV), dpv n p = true → ∃ d, toD0 p = some d ∧ PyData.canLay0 d = true ∧ PyData.depth d ≤ n := by
  intro n
  induction n with
  | zero =>
    intro p h
    cases p <;> simp [dpv] at h <;> simp_all [toD0, PyData.canLay0, PyData.depth]
  | succ n ih =>
    intro p h
    cases p with
    | tup l =>
      simp only [dpv, List.all_eq_true] at h
      obtain ⟨ds, e, r⟩ := toD0s_of (l := l) fun p hp => ih p (h p hp)
      have z := canLayAll_of r
      exact ⟨.tuple ds, by simp [toD0, e], by simpa [PyData.canLay0] using z.1, by simpa [PyData.depth] using z.2⟩
    | lst l =>
      simp only [dpv, List.all_eq_true] at h
      obtain ⟨ds, e, r⟩ := toD0s_of (l := l) fun p hp => ih p (h p hp)
      have z := canLayAll_of r
      exact ⟨.list ds, by simp [toD0, e], by simpa [PyData.canLay0] using z.1, by simpa [PyData.depth] using z.2⟩
    | _ => simp [dpv] at h <;> simp_all [toD0, PyData.canLay0, PyData.depth]
theorem shaped_of {d : PyData} (h : PyData.canLay0 d = true) (hd : PyData.depth d ≤ 64) : SeqAt.shaped d = true := by
  simp [SeqAt.shaped, h, hd]
/-- truths are no numbers here -/
def cleanD : Nat → PyData → Bool
  | _, .none => true
  | _, .int _ => true
  | _, .str _ => true
  | n + 1, .tuple l => l.all (cleanD n)
  | n + 1, .list l => l.all (cleanD n)
  | _, _ => false
theorem dpv_clean : ∀ (n : Nat) (p : PV) (d : PyData), dpv n p = true → toD0 p = some d → cleanD n d = true := by
  intro n
  induction n with
  | zero =>
    intro p d h e
    cases p <;> simp [dpv] at h <;> simp [toD0] at e <;> subst e <;> rfl
  | succ n ih =>
    have key : ∀ (l : List PV) (ds : List PyData), l.all (dpv n) = true → toD0s l = some ds → ds.all (cleanD n) = true := by
      intro l
      induction l with
      | nil => intro ds _ e; simp [toD0s] at e; subst e; rfl
      | cons p l ih2 =>
        intro ds h e
        simp only [List.all_cons, Bool.and_eq_true] at h
        simp only [toD0s] at e
        obtain ⟨d, e1, e⟩ := Option.bind_eq_some_iff.mp e
        obtain ⟨ds', e2, rfl⟩ := Option.map_eq_some_iff.mp e
        simp [ih p d h.1 e1, ih2 ds' h.2 e2]
    intro p d h e
    cases p with
    | tup l =>
      simp only [dpv] at h
      simp only [toD0] at e
      obtain ⟨ds, e1, rfl⟩ := Option.map_eq_some_iff.mp e
      exact key l ds h e1
    | lst l =>
      simp only [dpv] at h
      simp only [toD0] at e
      obtain ⟨ds, e1, rfl⟩ := Option.map_eq_some_iff.mp e
      exact key l ds h e1
    | _ => simp [dpv] at h <;> (simp [toD0] at e) <;> subst e <;> rfl
theorem eqv_clean : ∀ (n : Nat) (d e : PyData), cleanD n d = true → cleanD n e = true → (PyData.eqv d e = true ↔ d = e) := by
  intro n
  induction n with
  | zero =>
    intro d e h1 h2
    cases d <;> simp [cleanD] at h1 <;> cases e <;> simp [cleanD] at h2 <;> simp [PyData.eqv]
  | succ n ih =>
    have key : ∀ (l m : List PyData), l.all (cleanD n) = true → m.all (cleanD n) = true → (PyData.eqvAll l m = true ↔ l = m) := by
      intro l
      induction l with
      | nil => intro m _ _; cases m <;> simp [PyData.eqvAll]
      | cons a l ih2 =>
        intro m h1 h2
        cases m with
        | nil => simp [PyData.eqvAll]
        | cons b m =>
          simp only [List.all_cons, Bool.and_eq_true] at h1 h2
          simp only [PyData.eqvAll, Bool.and_eq_true, List.cons.injEq]
          rw [ih a b h1.1 h2.1, ih2 m h1.2 h2.2]
    intro d e h1 h2
    cases d <;> simp [cleanD] at h1 <;> cases e <;> simp [cleanD] at h2 <;> simp only [PyData.eqv, reduceCtorEq, Bool.false_eq_true, beq_iff_eq, PyData.int.injEq, PyData.str.injEq, PyData.list.injEq, PyData.tuple.injEq]
    · exact key _ _ (by simpa using h1) (by simpa using h2)
    · exact key _ _ (by simpa using h1) (by simpa using h2)
theorem toD0_inj : ∀ (n : Nat) (p q : PV) (d : PyData), dpv n p = true → dpv n q = true → toD0 p = some d → toD0 q = some d → p = q := by
  intro n
  induction n with
  | zero =>
    intro p q d h1 h2 e1 e2
    cases p <;> simp [dpv] at h1 <;> cases q <;> simp [dpv] at h2 <;> simp [toD0] at e1 e2 <;> subst e1 <;> simp_all
  | succ n ih =>
    have key : ∀ (l m : List PV) (ds : List PyData), l.all (dpv n) = true → m.all (dpv n) = true → toD0s l = some ds → toD0s m = some ds → l = m := by
      intro l
      induction l with
      | nil =>
        intro m ds _ _ e1 e2
        simp [toD0s] at e1
        subst e1
        cases m with
        | nil => rfl
        | cons b m =>
          simp only [toD0s] at e2
          obtain ⟨d, _, e⟩ := Option.bind_eq_some_iff.mp e2
          obtain ⟨_, _, e⟩ := Option.map_eq_some_iff.mp e
          cases e
      | cons a l ih2 =>
        intro m ds h1 h2 e1 e2
        simp only [toD0s] at e1
        obtain ⟨d, a1, e⟩ := Option.bind_eq_some_iff.mp e1
        obtain ⟨ds', a2, rfl⟩ := Option.map_eq_some_iff.mp e
        cases m with
        | nil => simp [toD0s] at e2
        | cons b m =>
          simp only [toD0s] at e2
          obtain ⟨d2, b1, e⟩ := Option.bind_eq_some_iff.mp e2
          obtain ⟨ds2, b2, e⟩ := Option.map_eq_some_iff.mp e
          cases e
          simp only [List.all_cons, Bool.and_eq_true] at h1 h2
          rw [ih a b d h1.1 h2.1 a1 b1, ih2 m ds' h1.2 h2.2 a2 b2]
    intro p q d h1 h2 e1 e2
    match p, q, h1, h2, e1, e2 with
    | .tup l, .tup m, h1, h2, e1, e2 =>
      simp only [toD0] at e1 e2
      obtain ⟨ds, e3, rfl⟩ := Option.map_eq_some_iff.mp e1
      obtain ⟨ds2, e4, e⟩ := Option.map_eq_some_iff.mp e2
      cases e
      rw [key l m ds (by simpa only [dpv] using h1) (by simpa only [dpv] using h2) e3 e4]
    | .lst l, .lst m, h1, h2, e1, e2 =>
      simp only [toD0] at e1 e2
      obtain ⟨ds, e3, rfl⟩ := Option.map_eq_some_iff.mp e1
      obtain ⟨ds2, e4, e⟩ := Option.map_eq_some_iff.mp e2
      cases e
      rw [key l m ds (by simpa only [dpv] using h1) (by simpa only [dpv] using h2) e3 e4]
    | .tup l, .lst m, h1, h2, e1, e2 =>
      simp only [toD0] at e1 e2
      obtain ⟨ds, e3, rfl⟩ := Option.map_eq_some_iff.mp e1
      obtain ⟨ds2, e4, e⟩ := Option.map_eq_some_iff.mp e2
      cases e
    | .lst l, .tup m, h1, h2, e1, e2 =>
      simp only [toD0] at e1 e2
      obtain ⟨ds, e3, rfl⟩ := Option.map_eq_some_iff.mp e1
      obtain ⟨ds2, e4, e⟩ := Option.map_eq_some_iff.mp e2
      cases e
    | .non, q, h1, h2, e1, e2 => cases q <;> simp [toD0, dpv] at e1 e2 h2 <;> subst e1 <;> simp_all
    | .int i, q, h1, h2, e1, e2 => cases q <;> simp [toD0, dpv] at e1 e2 h2 <;> subst e1 <;> simp_all
    | .str i, q, h1, h2, e1, e2 => cases q <;> simp [toD0, dpv] at e1 e2 h2 <;> subst e1 <;> simp_all
    | .tup l, .non, h1, h2, e1, e2 => simp [toD0] at e1 e2; subst e2; simp at e1
    | .tup l, .int _, h1, h2, e1, e2 => simp [toD0] at e1 e2; subst e2; simp at e1
    | .tup l, .str _, h1, h2, e1, e2 => simp [toD0] at e1 e2; subst e2; simp at e1
    | .lst l, .non, h1, h2, e1, e2 => simp [toD0] at e1 e2; subst e2; simp at e1
    | .lst l, .int _, h1, h2, e1, e2 => simp [toD0] at e1 e2; subst e2; simp at e1
    | .lst l, .str _, h1, h2, e1, e2 => simp [toD0] at e1 e2; subst e2; simp at e1
    | .bl _, _, h1, _, _, _ => simp [dpv] at h1
    | .dK _ _, _, h1, _, _, _ => simp [dpv] at h1
    | .dT _ _, _, h1, _, _, _ => simp [dpv] at h1
    | .ref _, _, h1, _, _, _ => simp [dpv] at h1
    | .con _, _, h1, _, _, _ => simp [dpv] at h1
    | .ty _, _, h1, _, _, _ => simp [dpv] at h1
    | .scr _, _, h1, _, _, _ => simp [dpv] at h1
    | .err _ _, _, h1, _, _, _ => simp [dpv] at h1
    | _, .bl _, _, h1, _, _ => simp [dpv] at h1
    | _, .dK _ _, _, h1, _, _ => simp [dpv] at h1
    | _, .dT _ _, _, h1, _, _ => simp [dpv] at h1
    | _, .ref _, _, h1, _, _ => simp [dpv] at h1
    | _, .con _, _, h1, _, _ => simp [dpv] at h1
    | _, .ty _, _, h1, _, _ => simp [dpv] at h1
    | _, .scr _, _, h1, _, _ => simp [dpv] at h1
    | _, .err _ _, _, h1, _, _ => simp [dpv] at h1
theorem eqv_dpv {n : Nat} {p q : PV} {d e : PyData} (hp : dpv n p = true) (hq : dpv n q = true) (h1 : toD0 p = some d) (h2 : toD0 q = some e) : PyData.eqv d e = true ↔ p = q := by
  rw [eqv_clean n d e (dpv_clean n p d hp h1) (dpv_clean n q e hq h2)]
  constructor
  · intro z
    subst z
    exact toD0_inj n p q d hp hq h1 h2
  · intro z
    subst z
    rw [h1] at h2
    exact Option.some.inj h2
open Classical in
theorem pEqB_dpv {x y : PV} {st : Store} (hx : dpv 64 x = true) (hy : dpv 64 y = true) : pEqB x y st = .ok (decide (x = y)) st := by
  obtain ⟨d, e1, c1, z1⟩ := dpv_d 64 x hx
  obtain ⟨e, e2, c2, z2⟩ := dpv_d 64 y hy
  have gen : pEqB x y st = .ok (PyData.eqv d e) st → pEqB x y st = .ok (decide (x = y)) st := fun h => by
    rw [h]
    congr 1
    rw [Bool.eq_iff_iff, decide_eq_true_eq]
    exact eqv_dpv hx hy e1 e2
  have t1 : toD x st = some d := by cases x <;> first | exact e1 | (simp [dpv] at hx)
  have t2 : toD y st = some e := by cases y <;> first | exact e2 | (simp [dpv] at hy)
  apply gen
  unfold pEqB
  split
  · simp only [toD0, Option.some.injEq] at e1 e2; subst e1 e2; simp [PyData.eqv]; congr
  · simp only [toD0, Option.some.injEq] at e1 e2; subst e1 e2; simp [PyData.eqv]; congr
  · rw [t1, t2]
    simp only [shaped_of c1 z1, shaped_of c2 z2, and_self, if_true]
section
variable {Q : PV → Store → Prop} {st : Store} {x y : PV} {l : List PV}
open Classical in
theorem wp_eqD (hx : dpv 64 x = true) (hy : dpv 64 y = true) : (wpX Xp) (pEq x y st) Q = Q (.bl (decide (x = y))) st := by
  simp only [pEq, pEqB_dpv hx hy, Res.bind, wp_ok]
open Classical in
theorem wp_neD (hx : dpv 64 x = true) (hy : dpv 64 y = true) : (wpX Xp) (pNe x y st) Q = Q (.bl (!decide (x = y))) st := by
  simp only [pNe, pEqB_dpv hx hy, Res.bind, wp_ok]
theorem any_dpv {n : Nat} : ∀ {l : List PV} {ds : List PyData} {d : PyData}, dpv n x = true → toD0 x = some d → l.all (dpv n) = true → toD0s l = some ds → ((ds.any fun z => PyData.eqv z d) = true ↔ x ∈ l)
  | [], ds, d, _, _, _, e => by simp [toD0s] at e; subst e; simp
  | p :: l, ds, d, hx, hd, h, e => by
    simp only [toD0s] at e
    obtain ⟨d', a1, e⟩ := Option.bind_eq_some_iff.mp e
    obtain ⟨ds', a2, rfl⟩ := Option.map_eq_some_iff.mp e
    simp only [List.all_cons, Bool.and_eq_true] at h
    simp only [List.any_cons, Bool.or_eq_true, List.mem_cons]
    rw [any_dpv hx hd h.2 a2, eqv_dpv h.1 hx a1 hd]
    exact ⟨fun z => z.imp Eq.symm id, fun z => z.imp Eq.symm id⟩
open Classical in
theorem pInB_dpv {y : PV} (hy : y = .tup l ∨ y = .lst l) (hx : dpv 63 x = true) (hl : l.all (dpv 63) = true) : pInB x y st = .ok (decide (x ∈ l)) st := by
  have hx64 : dpv 63 x = true := hx
  obtain ⟨d, e1, c1, z1⟩ := dpv_d 63 x hx
  have t1 : toD x st = some d := by cases x <;> first | exact e1 | (simp [dpv] at hx)
  have hy64 : dpv 64 y = true := by rcases hy with rfl | rfl <;> simpa [dpv] using hl
  obtain ⟨e, e2, c2, z2⟩ := dpv_d 64 y hy64
  have s1 := shaped_of c1 (Nat.le_succ_of_le z1)
  have s2 := shaped_of c2 z2
  rcases hy with rfl | rfl
  · simp only [toD0] at e2
    obtain ⟨ds, e3, rfl⟩ := Option.map_eq_some_iff.mp e2
    have g : dGet (.tup l) x st = none := rfl
    have t2 : toD (.tup l) st = some (.tuple ds) := by simp only [toD, toD0, e3, Option.map_some]
    unfold pInB
    rw [g]
    have m : (ds.any fun z => PyData.eqv z d) = decide (x ∈ l) := by rw [Bool.eq_iff_iff, decide_eq_true_eq]; exact any_dpv hx e1 hl e3
    cases x <;> (try (simp [dpv] at hx)) <;> simp only [t1, t2, s1, s2, and_self, if_true, m]
  · simp only [toD0] at e2
    obtain ⟨ds, e3, rfl⟩ := Option.map_eq_some_iff.mp e2
    have g : dGet (.lst l) x st = none := rfl
    have t2 : toD (.lst l) st = some (.list ds) := by simp only [toD, toD0, e3, Option.map_some]
    unfold pInB
    rw [g]
    have m : (ds.any fun z => PyData.eqv z d) = decide (x ∈ l) := by rw [Bool.eq_iff_iff, decide_eq_true_eq]; exact any_dpv hx e1 hl e3
    cases x <;> (try (simp [dpv] at hx)) <;> simp only [t1, t2, s1, s2, and_self, if_true, m]
open Classical in
theorem wp_inT (hx : dpv 63 x = true) (hl : l.all (dpv 63) = true) : (wpX Xp) (pIn x (.tup l) st) Q = Q (.bl (decide (x ∈ l))) st := by
  simp only [pIn, pInB_dpv (.inl rfl) hx hl, Res.bind, wp_ok]
open Classical in
theorem wp_inL (hx : dpv 63 x = true) (hl : l.all (dpv 63) = true) : (wpX Xp) (pIn x (.lst l) st) Q = Q (.bl (decide (x ∈ l))) st := by
  simp only [pIn, pInB_dpv (.inr rfl) hx hl, Res.bind, wp_ok]
open Classical in
theorem wp_notInT (hx : dpv 63 x = true) (hl : l.all (dpv 63) = true) : (wpX Xp) (pNotIn x (.tup l) st) Q = Q (.bl (!decide (x ∈ l))) st := by
  simp only [pNotIn, pInB_dpv (.inl rfl) hx hl, Res.bind, wp_ok]
open Classical in
theorem wp_notInL (hx : dpv 63 x = true) (hl : l.all (dpv 63) = true) : (wpX Xp) (pNotIn x (.lst l) st) Q = Q (.bl (!decide (x ∈ l))) st := by
  simp only [pNotIn, pInB_dpv (.inr rfl) hx hl, Res.bind, wp_ok]
end
theorem dpv_mono : ∀ {n m : Nat} {p : PV}, n ≤ m → dpv n p = true → dpv m p = true := by
  intro n
  induction n with
  | zero => intro m p _ h; cases p <;> simp [dpv] at h <;> cases m <;> simp [dpv, h]
  | succ n ih =>
    intro m p hm h
    cases m with
    | zero => omega
    | succ m =>
      cases p with
      | tup l => simp only [dpv, List.all_eq_true] at h ⊢; exact fun q hq => ih (by omega) (h q hq)
      | lst l => simp only [dpv, List.all_eq_true] at h ⊢; exact fun q hq => ih (by omega) (h q hq)
      | _ => first | (simp [dpv] at h; done) | simpa [dpv] using h
end DN
set_option Elab.async false
set_option linter.all false
set_option maxRecDepth 100000
set_option maxHeartbeats 2000000
/-! DnWp4: while, dicts, sorted, pop. -/
namespace DN
open PySem PySem.Spec PyProof.Rows L2
variable {Xp : EP}
section
variable {Q : PV → Store → Prop} {QB : Bool → Store → Prop} {st : Store} {σ : AE} {N : AE → Store → Prop} {R : PV → Store → Prop} {B C : AE → Store → Prop} {c : DB} {b : DS} {w : List Nat}
theorem whileN_more : ∀ (n k : Nat) (σ : AE) (st : Store), whileN c b w n σ st ≠ .fail → whileN c b w (n + k) σ st = whileN c b w n σ st
  | 0, _, _, _, h => (h rfl).elim
  | n + 1, k, σ, st, h => by
    rw [show n + 1 + k = (n + k) + 1 by omega]
    unfold whileN at h ⊢
    cases q : c σ st with
    | ok t st1 =>
      rw [q] at h
      simp only [Res.bind] at h ⊢
      cases t with
      | false => rfl
      | true =>
        simp only [if_true] at h ⊢
        cases q2 : b σ st1 with
        | ok r st2 =>
          rw [q2] at h
          obtain ⟨fl, σ2⟩ := r
          cases fl with
          | nx => exact whileN_more n k _ _ h
          | ct => exact whileN_more n k _ _ h
          | bk => rfl
          | rt v => rfl
        | exc _ _ _ => rfl
        | fail => rfl
    | exc _ _ _ => rfl
    | fail => rfl
theorem sWhile_of {n : Nat} (h : whileN c b w n σ st ≠ .fail) : sWhile c b w σ st = whileN c b w n σ st := by
  have e : ∃ n, whileN c b w n σ st ≠ .fail := ⟨n, h⟩
  unfold sWhile
  rw [dif_pos e]
  have h2 := Classical.choose_spec e
  rcases Nat.le_total n (Classical.choose e) with z | z
  · obtain ⟨k, hk⟩ := Nat.le.dest z
    rw [← hk]
    exact whileN_more n k σ st h
  · obtain ⟨k, hk⟩ := Nat.le.dest z
    rw [← hk]
    exact (whileN_more _ k σ st h2).symm
theorem wps_nf {s : Res (Fl × AE)} (h : (wpsX Xp) s N R B C) : s ≠ .fail := by
  rintro rfl
  exact nwsF h
theorem wps_while (I : Nat → AE → Store → Prop) (hs : ∀ n σ st, I n σ st → (wpX Xp) (c σ st) fun k st1 => cnd k ((wpsX Xp) (b σ st1) (fun σ2 st2 => ∃ m, m < n ∧ I m (wipeA σ2 w) st2) R (fun σ2 st2 => N (wipeA σ2 w) st2) (fun σ2 st2 => ∃ m, m < n ∧ I m (wipeA σ2 w) st2)) (N σ st1)) (n : Nat) (h : I n σ st) : (wpsX Xp) (sWhile c b w σ st) N R B C := by
  have key : ∀ n σ st, I n σ st → (wpsX Xp) (whileN c b w (n + 1) σ st) N R B C := by
    intro n
    induction n using Nat.strongRecOn with
    | ind n ih =>
      intro σ st h
      have h1 := hs n σ st h
      unfold whileN
      cases q : c σ st with
      | ok t st1 =>
        rw [q] at h1
        simp only [wp_ok] at h1
        simp only [Res.bind]
        cases t with
        | false => simp only [cnd_false] at h1; exact wps_nx.mpr h1
        | true =>
          simp only [cnd_true] at h1
          simp only [if_true]
          have go : ∀ σ2 st2, (∃ m, m < n ∧ I m (wipeA σ2 w) st2) → (wpsX Xp) (whileN c b w n (wipeA σ2 w) st2) N R B C := by
            rintro σ2 st2 ⟨m, hm, hI⟩
            have h2 := ih m hm _ _ hI
            obtain ⟨k, hk⟩ := Nat.le.dest (show m + 1 ≤ n by omega)
            rw [← hk, whileN_more _ _ _ _ (wps_nf h2)]
            exact h2
          cases q2 : b σ st1 with
          | ok r st2 =>
            rw [q2] at h1
            obtain ⟨fl, σ2⟩ := r
            cases fl with
            | nx => have h2 := wps_nx.mp h1; exact go _ _ h2
            | ct => have h2 := wps_ct.mp h1; exact go _ _ h2
            | bk => have h2 := wps_bk.mp h1; exact wps_nx.mpr h2
            | rt v => have h2 := wps_rt.mp h1; exact wps_rt.mpr h2
          | exc _ _ _ => rw [q2, wps_exc] at h1; exact wps_exc.mpr h1
          | fail => rw [q2] at h1; exact (nwsF h1).elim
      | exc _ _ _ => rw [q, wp_exc] at h1; exact wps_exc.mpr h1
      | fail => rw [q] at h1; exact (nwF h1).elim
  have h2 := key n σ st h
  rw [sWhile_of (wps_nf h2)]
  exact h2
/-! loops whose invariant stays closed in the step -/
theorem wps_forRo {t : DT} {hi lo : Int} (P : Int → AE → Store → Prop) (hs : ∀ I : Int → AE → Store → Prop, (∀ i σ st, P i σ st → I i σ st) → ∀ i σ st, P i σ st → i < hi → (wpX Xp) (t (.int i) σ st) fun σ1 st1 => (wpsX Xp) (b σ1 st1) (fun σ2 st2 => I (i + 1) (wipeA σ2 w) st2) R (fun σ2 st2 => N (wipeA σ2 w) st2) (fun σ2 st2 => I (i + 1) (wipeA σ2 w) st2))
    (hf : ∀ i σ st, P i σ st → hi ≤ i → N (wipeA σ w) st) (h : P lo σ st) : (wpsX Xp) (forL t b w (fun _ => true) (rgP lo hi) σ st) N R B C := wps_forR P (hs P fun _ _ _ h => h) hf lo σ st h
theorem wps_forLo {t : DT} (P : List PV → AE → Store → Prop) (l : List PV) (hs : ∀ I : List PV → AE → Store → Prop, (∀ i σ st, P i σ st → I i σ st) → ∀ p r σ st, P (p :: r) σ st → (wpX Xp) (t p σ st) fun σ1 st1 => (wpsX Xp) (b σ1 st1) (fun σ2 st2 => I r (wipeA σ2 w) st2) R (fun σ2 st2 => N (wipeA σ2 w) st2) (fun σ2 st2 => I r (wipeA σ2 w) st2))
    (hf : ∀ σ st, P [] σ st → N (wipeA σ w) st) (h : P l σ st) : (wpsX Xp) (forL t b w (fun _ => true) l σ st) N R B C := wps_forL P l σ st h (hs P fun _ _ _ h => h) hf
/-- a walk over the images of these -/
theorem wps_forM {α : Type} {g : α → PV} {t : DT} (P : List α → AE → Store → Prop) (l : List α) (hs : ∀ I : List α → AE → Store → Prop, (∀ i σ st, P i σ st → I i σ st) → ∀ p r σ st, P (p :: r) σ st → (wpX Xp) (t (g p) σ st) fun σ1 st1 => (wpsX Xp) (b σ1 st1) (fun σ2 st2 => I r (wipeA σ2 w) st2) R (fun σ2 st2 => N (wipeA σ2 w) st2) (fun σ2 st2 => I r (wipeA σ2 w) st2))
    (hf : ∀ σ st, P [] σ st → N (wipeA σ w) st) (h : P l σ st) : (wpsX Xp) (forL t b w (fun _ => true) (l.map g) σ st) N R B C := by
  refine wps_forL (fun m σ st => ∃ r, m = r.map g ∧ P r σ st) _ σ st ⟨l, rfl, h⟩ ?_ ?_
  · rintro p m σ st ⟨r, e, h⟩
    cases r with
    | nil => cases e
    | cons a r =>
      cases e
      refine wp_mono (hs P (fun _ _ _ h => h) a r σ st h) fun σ1 st1 h => ?_
      exact wps_mono h (fun σ st h => ⟨_, rfl, h⟩) (fun _ _ h => h) (fun _ _ h => h) (fun σ st h => ⟨_, rfl, h⟩)
  · rintro σ st ⟨r, e, h⟩
    cases r with
    | nil => exact hf σ st h
    | cons a r => cases e
theorem wps_whileO (P : Nat → AE → Store → Prop) (hs : ∀ I : Nat → AE → Store → Prop, (∀ i σ st, P i σ st → I i σ st) → ∀ n σ st, P n σ st → (wpX Xp) (c σ st) fun k st1 => cnd k ((wpsX Xp) (b σ st1) (fun σ2 st2 => ∃ m, m < n ∧ I m (wipeA σ2 w) st2) R (fun σ2 st2 => N (wipeA σ2 w) st2) (fun σ2 st2 => ∃ m, m < n ∧ I m (wipeA σ2 w) st2)) (N σ st1)) (n : Nat) (h : P n σ st) : (wpsX Xp) (sWhile c b w σ st) N R B C :=
  wps_while P (hs P fun _ _ _ h => h) n h
/-- a comprehension over the images of these -/
theorem wp_lcM {α : Type} {g : α → PV} {t : DT} {c : DB} {e : DE} {QL : List PV → Store → Prop} (P : List α → List PV → Store → Prop) (l : List α) (st : Store)
    (hs : ∀ I : List α → List PV → Store → Prop, (∀ i σ st, P i σ st → I i σ st) → ∀ p r acc st, P (p :: r) acc st → wpX EF (t (g p) σ st) fun σ1 st1 => wpX EF (c σ1 st1) fun b st2 => cnd b (wpX EF (e σ1 st2) fun v st3 => I r (acc ++ [v]) st3) (I r acc st2))
    (hf : ∀ acc st, P [] acc st → QL acc st) (h : P l [] st) : (wpX Xp) (lcI t c e (fun _ => true) σ (l.map g) st) QL := by
  refine wp_lcI (fun acc m st => ∃ r, m = r.map g ∧ P r acc st) _ st ⟨l, rfl, h⟩ ?_ ?_
  · rintro acc p m st ⟨r, e, h⟩
    cases r with
    | nil => cases e
    | cons a r =>
      cases e
      refine wp_mono (hs P (fun _ _ _ h => h) a r acc st h) fun σ1 st1 h => wp_mono h fun b st2 h => ?_
      cases b with
      | true =>
        simp only [cnd_true] at h ⊢
        exact wp_mono h fun v st3 h => ⟨r, rfl, h⟩
      | false =>
        simp only [cnd_false] at h ⊢
        exact ⟨r, rfl, h⟩
  · rintro acc st ⟨r, e, h⟩
    cases r with
    | nil => exact hf acc st h
    | cons a r => cases e
/-- nothing changes: what is kept, and what of it -/
theorem wp_lcF {α : Type} {g : α → PV} {t : DT} {c : DB} {e : DE} {QL : List PV → Store → Prop} (keep : α → Bool) (v : α → PV) (l : List α)
    (hs : ∀ p ∈ l, wpX EF (t (g p) σ st) fun σ1 st1 => wpX EF (c σ1 st1) fun b st2 => st2 = st ∧ b = keep p ∧ (b = true → wpX EF (e σ1 st2) fun u st3 => u = v p ∧ st3 = st)) (hf : QL ((l.filter keep).map v) st) : (wpX Xp) (lcI t c e (fun _ => true) σ (l.map g) st) QL := by
  refine wp_lcM (fun r acc st' => st' = st ∧ acc ++ (r.filter keep).map v = (l.filter keep).map v ∧ ∀ p ∈ r, p ∈ l) l st ?_ ?_ ⟨rfl, by simp, fun p h => h⟩
  · rintro I hI p r acc st' ⟨rfl, h1, h2⟩
    refine wp_mono (hs p (h2 p List.mem_cons_self)) fun σ1 st1 h => wp_mono h fun b st2 ⟨e1, e2, h⟩ => ?_
    subst e1
    cases b with
    | true =>
      simp only [cnd_true]
      refine wp_mono (h rfl) fun u st3 ⟨e3, e4⟩ => ?_
      subst e3 e4
      refine hI _ _ _ ⟨rfl, ?_, fun q hq => h2 q (List.mem_cons_of_mem _ hq)⟩
      rw [← h1, List.filter_cons, ← e2, if_pos rfl]
      simp
    | false =>
      simp only [cnd_false]
      refine hI _ _ _ ⟨rfl, ?_, fun q hq => h2 q (List.mem_cons_of_mem _ hq)⟩
      rw [← h1, List.filter_cons, ← e2]
      simp
  · rintro acc st' ⟨rfl, h1, _⟩
    simp only [List.filter_nil, List.map_nil, List.append_nil] at h1
    rw [h1]
    exact hf
@[simp] theorem wp_bYes : (wpX Xp) (bYes σ st) QB = QB true st := by unfold wpX; rfl
theorem wp_lcA {α : Type} {g : α → PV} {t : DT} {e : DE} {QL : List PV → Store → Prop} (v : α → PV) (l : List α)
    (hs : ∀ p ∈ l, wpX EF (t (g p) σ st) fun σ1 st1 => st1 = st ∧ wpX EF (e σ1 st1) fun u st3 => u = v p ∧ st3 = st) (hf : QL (l.map v) st) : (wpX Xp) (lcI t bYes e (fun _ => true) σ (l.map g) st) QL := by
  have ef : l.filter (fun _ => true) = l := List.filter_eq_self.mpr fun _ _ => rfl
  refine wp_lcF (fun _ => true) v l (fun p hp => wp_mono (hs p hp) fun σ1 st1 h => ?_) (by rw [ef]; exact hf)
  simp only [wp_bYes]
  exact ⟨h.1, trivial, fun _ => h.2⟩
theorem rgP_nat (n : Nat) : rgP 0 n = (List.range n).map fun i => PV.int (i : Nat) := by
  unfold rgP
  simp
/-! dicts -/
variable {κ α : Type} [DecidableEq κ]
theorem find_map {es : List (κ × α)} {k k' : κ} {v : α} : ((es.map fun e => if e.1 = k then (e.1, v) else e).find? fun e => decide (e.1 = k')) = (es.find? fun e => decide (e.1 = k')).map fun e => if e.1 = k then (e.1, v) else e := by
  induction es with
  | nil => rfl
  | cons e es ih =>
    simp only [List.map_cons, List.find?_cons]
    by_cases h : e.1 = k
    · rw [if_pos h]
      by_cases h2 : e.1 = k'
      · have z : k = k' := h.symm.trans h2
        subst z
        simp [h]
      · simp [h2, ih]
    · rw [if_neg h]
      by_cases h2 : e.1 = k'
      · simp [h2]
        intro z; exact absurd (h2.trans z) h
      · simp [h2, ih]
theorem look_putA {es : List (κ × α)} {k k' : κ} {v : α} : look (putA es k v) k' = if k = k' then some v else look es k' := by
  unfold putA look
  split
  · rename_i h
    rw [find_map]
    obtain ⟨e, he, hk⟩ := List.any_eq_true.mp h
    rw [decide_eq_true_eq] at hk
    by_cases z : k = k'
    · subst z
      rw [if_pos rfl]
      cases q : es.find? fun e => decide (e.1 = k) with
      | none =>
        rw [List.find?_eq_none] at q
        exact absurd (q e he) (by simp [hk])
      | some e' =>
        have := List.find?_some q
        rw [decide_eq_true_eq] at this
        simp [this]
    · rw [if_neg z]
      cases q : es.find? fun e => decide (e.1 = k') with
      | none => rfl
      | some e' =>
        have := List.find?_some q
        rw [decide_eq_true_eq] at this
        simp only [Option.map_some, Option.some.injEq]
        rw [if_neg (fun h => z (h.symm.trans this))]
  · rename_i h
    simp only [Bool.not_eq_true] at h
    rw [List.find?_append]
    by_cases z : k = k'
    · subst z
      rw [if_pos rfl]
      cases q : es.find? fun e => decide (e.1 = k) with
      | none => simp
      | some e' =>
        have h2 := List.find?_some q
        have h3 := List.mem_of_find?_eq_some q
        rw [List.any_eq_false] at h
        exact absurd h2 (h e' h3)
    · rw [if_neg z]
      cases q : es.find? fun e => decide (e.1 = k') with
      | none => simp [z]
      | some e' => simp
theorem putA_len {es : List (κ × α)} {k : κ} {v : α} : (putA es k v).length ≤ es.length + 1 := by
  unfold putA
  split <;> simp
theorem putA_vals {es : List (κ × α)} {k : κ} {v : α} {p : α → Prop} (h : ∀ e ∈ es, p e.2) (hv : p v) : ∀ e ∈ putA es k v, p e.2 := by
  unfold putA
  split
  · intro e he
    obtain ⟨e', h1, rfl⟩ := List.mem_map.mp he
    split
    · exact hv
    · exact h e' h1
  · intro e he
    rcases List.mem_append.mp he with z | z
    · exact h e z
    · simp at z; subst z; exact hv
theorem zip_fs {κ α : Type} (es : List (κ × α)) : (es.map (·.1)).zip (es.map (·.2)) = es := by
  induction es with
  | nil => rfl
  | cons e es ih => simp [ih]
/-- a dict that nobody changes -/
def fzT (es : List (List Key × PV)) : PV := .dT (es.map (·.1)) (es.map (·.2))
theorem wp_ixT2 {es : List (List Key × PV)} {i j : Int} {v : PV} (h : look es [.inl i, .inl j] = some v) (q : Q v st) : (wpX Xp) (pIx (fzT es) (.tup [.int i, .int j]) st) Q := by
  have e : dGet (fzT es) (.tup [.int i, .int j]) st = some (some v) := by
    simp only [dGet, fzT, isW, kOfs, kOf, Option.bind_some, Option.map_some, zip_fs, h]
    rfl
  simp only [pIx, e]
  exact wp_ok.mpr q
theorem wp_ixR2 {es : List (List Key × PV)} {i j : Int} {v : PV} {n : Nat} (hn : st[n]? = some (.dT es)) (h : look es [.inl i, .inl j] = some v) (q : Q v st) : (wpX Xp) (pIx (.ref n) (.tup [.int i, .int j]) st) Q := by
  have e : dGet (.ref n) (.tup [.int i, .int j]) st = some (some v) := by
    simp only [dGet, hn, isW, kOfs, kOf, Option.bind_some, Option.map_some, h]
    rfl
  simp only [pIx, e]
  exact wp_ok.mpr q
theorem wp_setT2 {es : List (List Key × PV)} {i j : Int} {v : PV} {n : Nat} {QU : Unit → Store → Prop} (hn : st[n]? = some (.dT es)) (hz : es.length < SZ) (q : QU () (st.set n (.dT (putA es [.inl i, .inl j] v)))) : (wpX Xp) (pSet (.ref n) (.tup [.int i, .int j]) v st) QU := by
  have e1 : isW [PV.int i, PV.int j] = false := rfl
  have e2 : kOfs [PV.int i, PV.int j] = some [.inl i, .inl j] := rfl
  simp only [pSet, hn, e1, e2, if_pos hz, Bool.false_eq_true, if_false]
  exact wp_ok.mpr q
/-! sorted, pop -/
theorem ints_map : ∀ l : List Int, ints? (l.map PV.int) = some l
  | [] => rfl
  | i :: l => by simp [ints?, ints_map l]
theorem wp_srtL {l : List Int} : (wpX Xp) (qSrtI [.lst (l.map PV.int)] st) Q = Q (.lst ((isort l).map PV.int)) st := by
  simp only [qSrtI, asL, Option.bind_some, ints_map, wp_ok]
theorem wp_pop0 {l : List PV} {n : Nat} {y : PV} (h : st[n]? = some (.lst (l ++ [y]))) (q : Q y (st.set n (.lst l))) : (wpX Xp) (mPop0 (.ref n) [] st) Q := by
  have e : (l ++ [y])[(l ++ [y]).length - 1]? = some y := by simp
  have e2 : (l ++ [y]).dropLast = l := by simp
  simp only [mPop0, refL, h, e, e2]
  exact wp_ok.mpr q
theorem wp_pop1 {l : List PV} {n k : Nat} {y : PV} (h : st[n]? = some (.lst l)) (hk : l[k]? = some y) (hb : k < 1000000) (q : Q y (st.set n (.lst (l.eraseIdx k)))) : (wpX Xp) (mPop1 (.ref n) [.int k] st) Q := by
  have hl : k < l.length := (List.getElem?_eq_some_iff.mp hk).1
  have e : seqIndex? (k : Int) l.length = some k := by
    unfold seqIndex?
    simp
    omega
  simp only [mPop1, refL, h, e, hk, mPop1.B63]
  rw [if_pos (by omega)]
  exact wp_ok.mpr q
end
/-- data, n deep at most -/
def dab : Nat → PV → Bool
  | _, .non => true
  | _, .bl _ => true
  | _, .int _ => true
  | _, .str x => PyData.strOk x
  | n + 1, .tup l => l.all (dab n)
  | n + 1, .lst l => l.all (dab n)
  | _, _ => false
theorem dab_d : ∀ (n : Nat) (p : PV), dab n p = true → ∃ d, toD0 p = some d ∧ PyData.canLay0 d = true ∧ PyData.depth d ≤ n := by
  intro n
  induction n with
  | zero =>
    intro p h
    cases p <;> simp [dab] at h <;> simp_all [toD0, PyData.canLay0, PyData.depth]
  | succ n ih =>
    intro p h
    cases p with
    | tup l =>
      simp only [dab, List.all_eq_true] at h
      obtain ⟨ds, e, r⟩ := toD0s_of (l := l) fun p hp => ih p (h p hp)
      have z := canLayAll_of r
      exact ⟨.tuple ds, by simp [toD0, e], by simpa [PyData.canLay0] using z.1, by simpa [PyData.depth] using z.2⟩
    | lst l =>
      simp only [dab, List.all_eq_true] at h
      obtain ⟨ds, e, r⟩ := toD0s_of (l := l) fun p hp => ih p (h p hp)
      have z := canLayAll_of r
      exact ⟨.list ds, by simp [toD0, e], by simpa [PyData.canLay0] using z.1, by simpa [PyData.depth] using z.2⟩
    | _ => simp [dab] at h <;> simp_all [toD0, PyData.canLay0, PyData.depth]
theorem dab_mono : ∀ {n m : Nat} {p : PV}, n ≤ m → dab n p = true → dab m p = true := by
  intro n
  induction n with
  | zero => intro m p _ h; cases p <;> simp [dab] at h <;> cases m <;> simp [dab, h]
  | succ n ih =>
    intro m p hm h
    cases m with
    | zero => omega
    | succ m =>
      cases p with
      | tup l => simp only [dab, List.all_eq_true] at h ⊢; exact fun q hq => ih (by omega) (h q hq)
      | lst l => simp only [dab, List.all_eq_true] at h ⊢; exact fun q hq => ih (by omega) (h q hq)
      | _ => first | (simp [dab] at h; done) | simpa [dab] using h
mutual
theorem toD0_cl : ∀ {p : PV} {d : PyData}, toD0 p = some d → cl p = true
  | .non, _, _ => by simp
  | .bl _, _, _ => by simp
  | .int _, _, _ => by simp
  | .str _, _, _ => by simp
  | .tup l, d, h => by
    simp only [toD0] at h
    obtain ⟨ds, e, _⟩ := Option.map_eq_some_iff.mp h
    simpa using toD0s_cl e
  | .lst l, d, h => by
    simp only [toD0] at h
    obtain ⟨ds, e, _⟩ := Option.map_eq_some_iff.mp h
    simpa using toD0s_cl e
  | .scr l, d, h => by
    simp only [toD0] at h
    obtain ⟨ds, e, _⟩ := Option.map_eq_some_iff.mp h
    simpa [cl] using toD0s_cl e
  | .dK _ _, _, h => by simp [toD0] at h
  | .dT _ _, _, h => by simp [toD0] at h
  | .ref _, _, h => by simp [toD0] at h
  | .con _, _, h => by simp [toD0] at h
  | .ty _, _, h => by simp [toD0] at h
  | .err _ _, _, h => by simp [toD0] at h
theorem toD0s_cl : ∀ {l : List PV} {ds : List PyData}, toD0s l = some ds → cls l = true
  | [], _, _ => by simp
  | p :: l, ds, h => by
    simp only [toD0s] at h
    obtain ⟨d, e1, h⟩ := Option.bind_eq_some_iff.mp h
    obtain ⟨ds', e2, _⟩ := Option.map_eq_some_iff.mp h
    simp [toD0_cl e1, toD0s_cl e2]
end
theorem dab_cl {n : Nat} {p : PV} (h : dab n p = true) : cl p = true := by
  obtain ⟨d, e, _⟩ := dab_d n p h
  exact toD0_cl e
section
variable {Q : PV → Store → Prop} {st : Store} {p : PV} {n : Nat}
theorem wp_eqNil {l : List PV} (h : l.all (dab 20) = true) : (wpX Xp) (pEq (.lst l) (.lst []) st) Q = Q (.bl l.isEmpty) st := by
  have h' : dab 21 (.lst l) = true := by simpa [dab] using h
  obtain ⟨d, e, c, z⟩ := dab_d 21 _ h'
  simp only [toD0] at e
  obtain ⟨ds, e9, rfl⟩ := Option.map_eq_some_iff.mp e
  clear e
  have h1 : toD (.lst l) st = some (.list ds) := by simp [toD, toD0, e9]
  have h2 : toD (.lst []) st = some (.list []) := by simp [toD, toD0, toD0s]
  have h3 := shaped_of c (by omega)
  have h4 : SeqAt.shaped (.list []) = true := shaped_of (by simp [PyData.canLay0, PyData.canLayAll0]) (by simp [PyData.depth, PyData.depthAll])
  have h5 : PyData.eqv (.list ds) (.list []) = l.isEmpty := by
    cases l with
    | nil => simp [toD0s] at e9; subst e9; simp [PyData.eqv, PyData.eqvAll]
    | cons a l =>
      simp only [toD0s] at e9
      obtain ⟨d, _, e9⟩ := Option.bind_eq_some_iff.mp e9
      obtain ⟨ds', _, rfl⟩ := Option.map_eq_some_iff.mp e9
      simp [PyData.eqv, PyData.eqvAll]
  simp only [pEq, pEqB, h1, h2, h3, h4, h5, and_self, if_true, Res.bind, wp_ok]
theorem wp_neNil {l : List PV} (h : l.all (dab 20) = true) : (wpX Xp) (pNe (.lst l) (.lst []) st) Q = Q (.bl (!l.isEmpty)) st := by
  have := wp_eqNil (Xp := Xp) (st := st) (Q := fun v st => ∃ b, v = .bl b ∧ Q (.bl (!b)) st) h
  simp only [pEq, wp_bind, wp_ok, PV.bl.injEq, exists_eq_left'] at this
  simp only [pNe, wp_bind, wp_ok]
  exact this
def isTp : PV → Bool
  | .tup _ => true
  | _ => false
def isIn : PV → Bool
  | .int _ => true
  | .bl _ => true
  | _ => false
def isBo : PV → Bool
  | .bl _ => true
  | _ => false
def isSt : PV → Bool
  | .str _ => true
  | _ => false
theorem wp_isTup (h : dab n p = true) : (wpX Xp) (qIsI [p, .ty "tuple"] st) Q = Q (.bl (isTp p)) st := by
  cases p <;> cases n <;> simp [dab] at h <;> (unfold wpX; rfl)
theorem wp_isInt (h : dab n p = true) : (wpX Xp) (qIsI [p, .ty "int"] st) Q = Q (.bl (isIn p)) st := by
  cases p <;> cases n <;> simp [dab] at h <;> (unfold wpX; rfl)
theorem wp_isBool (h : dab n p = true) : (wpX Xp) (qIsI [p, .ty "bool"] st) Q = Q (.bl (isBo p)) st := by
  cases p <;> cases n <;> simp [dab] at h <;> (unfold wpX; rfl)
theorem wp_isStr (h : dab n p = true) : (wpX Xp) (qIsI [p, .ty "str"] st) Q = Q (.bl (isSt p)) st := by
  cases p <;> cases n <;> simp [dab] at h <;> (unfold wpX; rfl)
end
end DN
set_option Elab.async false
set_option linter.all false
set_option maxRecDepth 100000
set_option maxHeartbeats 2000000
/-! DnWpX: raise, try, what the heard tells. -/
namespace DN
open PySem PySem.Spec PyProof.Rows L2
variable {Xp : EP}
def inE (p : PV) (k : Str → PV → Prop) : Prop := match p with
  | .err c w => k c w
  | _ => False
@[simp] theorem inE_err {c : Str} {w : PV} {k : Str → PV → Prop} : inE (.err c w) k = k c w := rfl
section
variable {Q : PV → Store → Prop} {N : AE → Store → Prop} {R : PV → Store → Prop} {B C : AE → Store → Prop} {σ : AE} {st : Store} {f : DE} {s g : DS} {c x : Str} {w v : PV} {n : Nat} {tbl : Str → Str → Option Bool} {l : List Cl1}
@[simp] theorem wps_raise : (wpsX Xp) (sRaise c f σ st) N R B C = (wpX Xp) (f σ st) fun v st => Xp c v st := by
  unfold sRaise
  cases f σ st <;> (unfold wpsX; (try unfold wpX); rfl)
@[simp] theorem wp_what : (wpX Xp) (dWhat f σ st) Q = (wpX Xp) (f σ st) fun p st => inE p fun _ w => Q w st := by
  simp only [dWhat, wp_bind]
  congr 1; funext p st; cases p <;> simp [inE]
theorem wp_isE {b : Bool} (h : tbl c x = some b) : (wpX Xp) (qIsE tbl [.err c w, .con x] st) Q = Q (.bl b) st := by
  simp only [qIsE, h, wp_ok]
@[simp] theorem wps_try {b : DS} : (wpsX Xp) (sTry tbl n b l σ st) N R B C = wpsX (fun c w st' => (wpsX Xp) (runH tbl n c w l st') N R B C) (b σ st) N R B C := by
  unfold sTry
  cases b σ st with
  | ok r st' => obtain ⟨fl, a⟩ := r; cases fl <;> (unfold wpsX; rfl)
  | exc c w st' => rw [wps_exc]
  | fail => unfold wpsX; rfl
@[simp] theorem wps_runN : (wpsX Xp) (runH tbl n c w [] st) N R B C = Xp c w st := by unfold runH; exact wps_exc
theorem wps_runY {o : Option Nat} {r : List Cl1} (h : tbl c x = some true) : (wpsX Xp) (runH tbl n c w ((x, o, g) :: r) st) N R B C = (wpsX Xp) (endH n st (g (nE n o c w) st)) N R B C := by
  simp only [runH, h]
theorem wps_runM {o : Option Nat} {r : List Cl1} (h : tbl c x = some false) : (wpsX Xp) (runH tbl n c w ((x, o, g) :: r) st) N R B C = (wpsX Xp) (runH tbl n c w r st) N R B C := by
  simp only [runH, h]
theorem samE_rfl : samE st st := fun _ _ h => .inl h
theorem wps_endH {r : Res (Fl × AE)} (h : wpsX EF r (fun σ' st' => samE st st' ∧ σ'.length = n ∧ N (List.replicate n none) st') (fun v st' => noE v = true ∧ samE st st' ∧ R v st') (fun σ' st' => samE st st' ∧ σ'.length = n ∧ B (List.replicate n none) st') (fun σ' st' => samE st st' ∧ σ'.length = n ∧ C (List.replicate n none) st')) : (wpsX Xp) (endH n st r) N R B C := by
  cases r with
  | ok r st' =>
    obtain ⟨fl, σ'⟩ := r
    cases fl with
    | nx =>
      obtain ⟨h1, h2, h3⟩ := wps_nx.mp h
      simp only [endH, h1, h2, and_self, if_true]
      exact wps_nx.mpr h3
    | bk =>
      obtain ⟨h1, h2, h3⟩ := wps_bk.mp h
      simp only [endH, h1, h2, and_self, if_true]
      exact wps_bk.mpr h3
    | ct =>
      obtain ⟨h1, h2, h3⟩ := wps_ct.mp h
      simp only [endH, h1, h2, and_self, if_true]
      exact wps_ct.mpr h3
    | rt v =>
      obtain ⟨h1, h2, h3⟩ := wps_rt.mp h
      simp only [endH, h1, h2, and_self, if_true]
      exact wps_rt.mpr h3
  | exc c w st' => rw [wps_exc] at h; exact h.elim
  | fail => exact (nwsF h).elim
/-- a clause that returns a value, the store as it is -/
theorem wps_hit {o : Option Nat} {r : List Cl1} (h : tbl c x = some true) (hg : wpsX EF (g (nE n o c w) st) (fun _ _ => False) (fun v st' => noE v = true ∧ st' = st ∧ R v st) (fun _ _ => False) (fun _ _ => False)) : (wpsX Xp) (runH tbl n c w ((x, o, g) :: r) st) N R B C := by
  rw [wps_runY h]
  refine wps_endH (wps_mono hg (fun _ _ z => z.elim) (fun v st' z => ?_) (fun _ _ z => z.elim) (fun _ _ z => z.elim))
  obtain ⟨h1, rfl, h2⟩ := z
  exact ⟨h1, samE_rfl, h2⟩
theorem wp_fin {r : Res (Fl × AE)} (h : wpsX EF r (fun _ st => Q .non st) Q (fun _ _ => False) (fun _ _ => False)) : (wpX Xp) (finR r) Q := by
  cases r with
  | ok r st' =>
    obtain ⟨fl, σ'⟩ := r
    cases fl with
    | nx => exact wp_ok.mpr (wps_nx.mp h)
    | bk => exact (wps_bk.mp h).elim
    | ct => exact (wps_ct.mp h).elim
    | rt v => exact wp_ok.mpr (wps_rt.mp h)
  | exc c w st' => rw [wps_exc] at h; exact h.elim
  | fail => exact (nwsF h).elim
/-- what follows the try statement of the def that is handed the lambda -/
def Aft (n : Nat) (g : DS) (Q : PV → Store → Prop) (st : Store) : Prop := wpsX EF (g (List.replicate n none) st) (fun _ st => Q .non st) Q (fun _ _ => False) (fun _ _ => False)
theorem wp_heard2 (h : wpX (fun c w st' => wpsX EF (runH tbl n c w l st') (fun _ st2 => Aft n g Q st2) Q (fun _ _ => False) (fun _ _ => False)) (f σ st) fun _ st' => Aft n g Q st') : (wpX Xp) (dHeard2 tbl n l g f σ st) Q := by
  unfold dHeard2
  cases q : f σ st with
  | ok v st' => rw [q, wp_ok] at h; exact wp_fin h
  | exc c w st' =>
    rw [q, wp_exc] at h
    dsimp only
    cases z : runH tbl n c w l st' with
    | ok rr st2 =>
      rw [z] at h
      obtain ⟨fl, a⟩ := rr
      cases fl with
      | nx => exact wp_fin (wps_nx.mp h)
      | bk => exact (wps_bk.mp h).elim
      | ct => exact (wps_ct.mp h).elim
      | rt v => exact wp_ok.mpr (wps_rt.mp h)
    | exc c w st' => rw [z, wps_exc] at h; exact h.elim
    | fail => rw [z] at h; exact (nwsF h).elim
  | fail => rw [q] at h; exact (nwF h).elim
/-- .. that tells what the lambda tells -/
theorem wp_heard {told : Str} (h : wpX (fun c w st' => wpsX EF (runH tbl n c w l st') (fun _ st2 => Q .non st2) Q (fun _ _ => False) (fun _ _ => False)) (f σ st) fun v st' => Q (.tup [.str told, v]) st') : (wpX Xp) (dHeard tbl n told l f σ st) Q := by
  unfold dHeard
  cases q : f σ st with
  | ok v st' =>
    rw [q, wp_ok] at h
    simp only [wp_mTup]
    exact ⟨by simp, h⟩
  | exc c w st' =>
    rw [q, wp_exc] at h
    dsimp only
    cases z : runH tbl n c w l st' with
    | ok rr st2 =>
      rw [z] at h
      obtain ⟨fl, a⟩ := rr
      cases fl with
      | nx => exact wp_ok.mpr (wps_nx.mp h)
      | bk => exact (wps_bk.mp h).elim
      | ct => exact (wps_ct.mp h).elim
      | rt v => exact wp_ok.mpr (wps_rt.mp h)
    | exc c w st' => rw [z, wps_exc] at h; exact h.elim
    | fail => rw [z] at h; exact (nwsF h).elim
  | fail => rw [q] at h; exact (nwF h).elim
/-! tables, turned lists, sorted -/
theorem wp_gd {tab : List (Str × Str)} {z u : Str} (h : tab.lookup z = some u) : (wpX Xp) (pGd x tab (.con x) (.str z) st) Q = Q (.str u) st := by
  simp only [pGd, h, if_true, wp_ok]
@[simp] theorem wp_rev : (wpX Xp) (dRev f σ st) Q = (wpX Xp) (f σ st) fun p st => ∃ l, asL p st = some l ∧ Q (.lst l.reverse) st := by
  simp only [dRev, wp_bind]
  congr 1; funext p st
  cases q : asL p st <;> simp
theorem tksOf_tkv : ∀ l : List (List Key), (∀ k ∈ l, kOfs (k.map kpv) = some k) → tksOf (l.map tkv) = some l
  | [], _ => rfl
  | k :: l, h => by
    simp only [List.map_cons, tksOf, tkv, h k List.mem_cons_self, Option.bind_some, Option.map_eq_some_iff]
    exact ⟨l, tksOf_tkv l fun k hk => h k (List.mem_cons_of_mem _ hk), rfl⟩
theorem kOfs_kpv : ∀ k : List Key, kOfs (k.map kpv) = some k
  | [] => rfl
  | k :: l => by
    have : kOf (kpv k) = some k := by cases k <;> rfl
    simp only [List.map_cons, kOfs, this, kOfs_kpv l, Option.bind_some, Option.map_some]
theorem wp_srtT {l : List (List Key)} {p : PV} (hp : asI p st = some (l.map tkv)) (ok : okKs l = true) : (wpX Xp) (qSrtT [p] st) Q = Q (.lst ((ksort l).map tkv)) st := by
  simp only [qSrtT, hp, Option.bind_some, tksOf_tkv l fun k _ => kOfs_kpv k, ok, if_true, wp_ok]
end
end DN
set_option Elab.async false
set_option linter.all false
set_option maxRecDepth 100000
set_option maxHeartbeats 4000000
/-! K05O: that the defs compute it. Printed by gen.py. -/
namespace K05
open PySem PySem.Spec PyProof.Rows L2 DN
def top (i : Nat) : Stmt := PySem.Challenge.pw_nestsay_k05_lots_that_hang_together_by_l.main.body.getD i (.Pass ⟨0, 0, 0, 0⟩)
abbrev s__law_every : Stmt := top 44
abbrev s__law_pool : Stmt := top 40
abbrev s__law_is_told : Stmt := top 49
abbrev s__law_take : Stmt := top 41
abbrev s__law_one : Stmt := top 42
abbrev s__law_rooms : Stmt := top 45
abbrev s__law_other : Stmt := top 47
abbrev s__law_lot : Stmt := top 46
abbrev s__law_book : Stmt := top 50
abbrev s__law_mixed : Stmt := top 43
abbrev s__law_chain : Stmt := top 51
abbrev s__law_closed : Stmt := top 48
abbrev s_is_whole : Stmt := top 11
abbrev s_made_rooms : Stmt := top 12
abbrev s_all_standings : Stmt := top 17
abbrev s_is_standing : Stmt := top 18
abbrev s_is_lets : Stmt := top 21
abbrev s_is_thing : Stmt := top 13
abbrev s_says_right : Stmt := top 22
abbrev s_first_wrong : Stmt := top 27
abbrev s_is_pair : Stmt := top 26
abbrev s_made_book : Stmt := top 28
abbrev s_is_lot : Stmt := top 32
abbrev s_want_lot : Stmt := top 33
abbrev s_reached : Stmt := top 36
abbrev s_parts_in : Stmt := top 37
abbrev s_common_lets : Stmt := top 29
abbrev s_turned : Stmt := top 19
abbrev s_turned_lets : Stmt := top 23
abbrev s_all_lets : Stmt := top 30
abbrev s_near_of : Stmt := top 34
abbrev s_world_of : Stmt := top 35
abbrev s_parts : Stmt := top 38
abbrev s__law_lots_right : Stmt := top 52
abbrev s__law_refused : Stmt := top 53
abbrev s_law : Stmt := top 54
structure Fx (P : Program) (w : World) (K : PySem.W.Frag) (mg : Str → Option Value) (cs : List (Addr × Addr)) (tb : List (Addr × Str)) : Prop where
  n_len : mg "len" = none
  n_int : mg "int" = none
  n_str : mg "str" = none
  n_tuple : mg "tuple" = none
  n_list : mg "list" = none
  n_max : mg "max" = none
  n_min : mg "min" = none
  n_isinstance : mg "isinstance" = none
  n_sorted : mg "sorted" = none
  n_range : mg "range" = none
  n_enumerate : mg "enumerate" = none
  n_bool : mg "bool" = none
  n_ValueError : mg "ValueError" = none
  c_MOST_THINGS : ∃ t, mg "MOST_THINGS" = some (.int 24 t)
  c_MOST_ROOMS : ∃ t, mg "MOST_ROOMS" = some (.int 4 t)
  c_MOST_SAYINGS : ∃ t, mg "MOST_SAYINGS" = some (.int 400 t)
  t_APART : ∃ a, mg "APART" = some (.ref a) ∧ ∀ (T : TR) ρ H, Rl ⟨K, mg, T⟩ ρ H (.tup [(.str ("apart" : Str)), (.int 0)]) (.ref a)
  gd_TURNED : GdF w K mg ("TURNED" : Str) [(("apart" : Str), ("apart" : Str)), (("in" : Str), ("around" : Str)), (("around" : Str), ("in" : Str))]
  k_Refused : ∃ D, mg "Refused" = some (.ref D)
  k_BadRooms : ∃ D, mg "BadRooms" = some (.ref D)
  k_BadThing : ∃ D, mg "BadThing" = some (.ref D)
  k_BadBook : ∃ D, mg "BadBook" = some (.ref D)
  k_BadSaying : ∃ D, mg "BadSaying" = some (.ref D)
  k_BadLot : ∃ D, mg "BadLot" = some (.ref D)
  k_TooMany : ∃ D, mg "TooMany" = some (.ref D)
  x_BadRooms : ∀ base, ExcCal P w K mg base "BadRooms"
  x_BadBook : ∀ base, ExcCal P w K mg base "BadBook"
  x_BadSaying : ∀ base, ExcCal P w K mg base "BadSaying"
  x_BadLot : ∀ base, ExcCal P w K mg base "BadLot"
  x_TooMany : ∀ base, ExcCal P w K mg base "TooMany"
  cls : ClsT K mg tbl
  d__law_every : ∃ f fd, FunD K "_law_every" "_law_every" (defArgs s__law_every) (defBody s__law_every) (defScope s__law_every) [] [] f fd ∧ mg "_law_every" = some (.ref f)
  d__law_pool : ∃ f fd, FunD K "_law_pool" "_law_pool" (defArgs s__law_pool) (defBody s__law_pool) (defScope s__law_pool) [] [] f fd ∧ mg "_law_pool" = some (.ref f)
  d__law_is_told : ∃ f fd, FunD K "_law_is_told" "_law_is_told" (defArgs s__law_is_told) (defBody s__law_is_told) (defScope s__law_is_told) [] [] f fd ∧ mg "_law_is_told" = some (.ref f)
  d__law_take : ∃ f fd, FunD K "_law_take" "_law_take" (defArgs s__law_take) (defBody s__law_take) (defScope s__law_take) [] [] f fd ∧ mg "_law_take" = some (.ref f)
  d__law_one : ∃ f fd, FunD K "_law_one" "_law_one" (defArgs s__law_one) (defBody s__law_one) (defScope s__law_one) [] [] f fd ∧ mg "_law_one" = some (.ref f)
  d__law_rooms : ∃ f fd, FunD K "_law_rooms" "_law_rooms" (defArgs s__law_rooms) (defBody s__law_rooms) (defScope s__law_rooms) [] [] f fd ∧ mg "_law_rooms" = some (.ref f)
  d__law_other : ∃ f fd, FunD K "_law_other" "_law_other" (defArgs s__law_other) (defBody s__law_other) (defScope s__law_other) [] [] f fd ∧ mg "_law_other" = some (.ref f)
  d__law_lot : ∃ f fd, FunD K "_law_lot" "_law_lot" (defArgs s__law_lot) (defBody s__law_lot) (defScope s__law_lot) [] [] f fd ∧ mg "_law_lot" = some (.ref f)
  d__law_book : ∃ f fd, FunD K "_law_book" "_law_book" (defArgs s__law_book) (defBody s__law_book) (defScope s__law_book) [] [] f fd ∧ mg "_law_book" = some (.ref f)
  d__law_mixed : ∃ f fd, FunD K "_law_mixed" "_law_mixed" (defArgs s__law_mixed) (defBody s__law_mixed) (defScope s__law_mixed) [] [] f fd ∧ mg "_law_mixed" = some (.ref f)
  d__law_chain : ∃ f fd, FunD K "_law_chain" "_law_chain" (defArgs s__law_chain) (defBody s__law_chain) (defScope s__law_chain) [] [] f fd ∧ mg "_law_chain" = some (.ref f)
  d__law_closed : ∃ f fd, FunD K "_law_closed" "_law_closed" (defArgs s__law_closed) (defBody s__law_closed) (defScope s__law_closed) [] [] f fd ∧ mg "_law_closed" = some (.ref f)
  d_is_whole : ∃ f fd, FunD K "is_whole" "is_whole" (defArgs s_is_whole) (defBody s_is_whole) (defScope s_is_whole) [] [] f fd ∧ mg "is_whole" = some (.ref f)
  d_made_rooms : ∃ f fd, FunD K "made_rooms" "made_rooms" (defArgs s_made_rooms) (defBody s_made_rooms) (defScope s_made_rooms) [] [] f fd ∧ mg "made_rooms" = some (.ref f)
  d_all_standings : ∃ f fd, FunD K "all_standings" "all_standings" (defArgs s_all_standings) (defBody s_all_standings) (defScope s_all_standings) [] [] f fd ∧ mg "all_standings" = some (.ref f)
  d_is_standing : ∃ f fd, FunD K "is_standing" "is_standing" (defArgs s_is_standing) (defBody s_is_standing) (defScope s_is_standing) [] [] f fd ∧ mg "is_standing" = some (.ref f)
  d_is_lets : ∃ f fd, FunD K "is_lets" "is_lets" (defArgs s_is_lets) (defBody s_is_lets) (defScope s_is_lets) [] [] f fd ∧ mg "is_lets" = some (.ref f)
  d_is_thing : ∃ f fd, FunD K "is_thing" "is_thing" (defArgs s_is_thing) (defBody s_is_thing) (defScope s_is_thing) [] [] f fd ∧ mg "is_thing" = some (.ref f)
  d_says_right : ∃ f fd, FunD K "says_right" "says_right" (defArgs s_says_right) (defBody s_says_right) (defScope s_says_right) [] [] f fd ∧ mg "says_right" = some (.ref f)
  d_first_wrong : ∃ f fd, FunD K "first_wrong" "first_wrong" (defArgs s_first_wrong) (defBody s_first_wrong) (defScope s_first_wrong) [] [] f fd ∧ mg "first_wrong" = some (.ref f)
  d_is_pair : ∃ f fd, FunD K "is_pair" "is_pair" (defArgs s_is_pair) (defBody s_is_pair) (defScope s_is_pair) [] [] f fd ∧ mg "is_pair" = some (.ref f)
  d_made_book : ∃ f fd, FunD K "made_book" "made_book" (defArgs s_made_book) (defBody s_made_book) (defScope s_made_book) [] [] f fd ∧ mg "made_book" = some (.ref f)
  d_is_lot : ∃ f fd, FunD K "is_lot" "is_lot" (defArgs s_is_lot) (defBody s_is_lot) (defScope s_is_lot) [] [] f fd ∧ mg "is_lot" = some (.ref f)
  d_want_lot : ∃ f fd, FunD K "want_lot" "want_lot" (defArgs s_want_lot) (defBody s_want_lot) (defScope s_want_lot) [] [] f fd ∧ mg "want_lot" = some (.ref f)
  d_reached : ∃ f fd, FunD K "reached" "reached" (defArgs s_reached) (defBody s_reached) (defScope s_reached) [] [] f fd ∧ mg "reached" = some (.ref f)
  d_parts_in : ∃ f fd, FunD K "parts_in" "parts_in" (defArgs s_parts_in) (defBody s_parts_in) (defScope s_parts_in) [] [] f fd ∧ mg "parts_in" = some (.ref f)
  d_common_lets : ∃ f fd, FunD K "common_lets" "common_lets" (defArgs s_common_lets) (defBody s_common_lets) (defScope s_common_lets) [] [] f fd ∧ mg "common_lets" = some (.ref f)
  d_turned : ∃ f fd, FunD K "turned" "turned" (defArgs s_turned) (defBody s_turned) (defScope s_turned) [] [] f fd ∧ mg "turned" = some (.ref f)
  d_turned_lets : ∃ f fd, FunD K "turned_lets" "turned_lets" (defArgs s_turned_lets) (defBody s_turned_lets) (defScope s_turned_lets) [] [] f fd ∧ mg "turned_lets" = some (.ref f)
  d_all_lets : ∃ f fd, FunD K "all_lets" "all_lets" (defArgs s_all_lets) (defBody s_all_lets) (defScope s_all_lets) [] [] f fd ∧ mg "all_lets" = some (.ref f)
  d_near_of : ∃ f fd, FunD K "near_of" "near_of" (defArgs s_near_of) (defBody s_near_of) (defScope s_near_of) [] [] f fd ∧ mg "near_of" = some (.ref f)
  d_world_of : ∃ f fd, FunD K "world_of" "world_of" (defArgs s_world_of) (defBody s_world_of) (defScope s_world_of) [] [] f fd ∧ mg "world_of" = some (.ref f)
  d_parts : ∃ f fd, FunD K "parts" "parts" (defArgs s_parts) (defBody s_parts) (defScope s_parts) [] [] f fd ∧ mg "parts" = some (.ref f)
  d__law_lots_right : ∃ f fd, FunD K "_law_lots_right" "_law_lots_right" (defArgs s__law_lots_right) (defBody s__law_lots_right) (defScope s__law_lots_right) [] [] f fd ∧ mg "_law_lots_right" = some (.ref f)
  d__law_refused : ∃ f fd, FunD K "_law_refused" "_law_refused" (defArgs s__law_refused) (defBody s__law_refused) (defScope s__law_refused) [] [] f fd ∧ mg "_law_refused" = some (.ref f)
  d_law : ∃ f fd, FunD K "law" "law" (defArgs s_law) (defBody s_law) (defScope s_law) [] [] f fd ∧ mg "law" = some (.ref f)
section
variable {P : Program} {w : World} {K : PySem.W.Frag} {mg : Str → Option Value} {base : Heap} {cs : List (Addr × Addr)} {tb : List (Addr × Str)}
theorem sc__law_every : FnScope ["_law_rooms_here", "_law_x", "_law_y", "_law_inner", "_law_outer", "_law_j", "_law_i"] ["_law_rooms_here", "_law_x", "_law_y"] (defScope s__law_every) := ⟨rfl, rfl, rfl, by decide +kernel, rfl, by decide +kernel, by decide +kernel⟩
theorem fn__law_every (F : Fx P w K mg cs tb) {f : Addr} {fd : FuncData} (D : FunD K "_law_every" "_law_every" (defArgs s__law_every) (defBody s__law_every) (defScope s__law_every) [] [] f fd) : FnD P w K mg base tb 1 f fd ["_law_rooms_here", "_law_x", "_law_y"] Lib._law_every := by
  have nd := sc__law_every.nd
  refine fn_ok (N := ["_law_rooms_here", "_law_x", "_law_y", "_law_inner", "_law_outer", "_law_j", "_law_i"]) (ps := ["_law_rooms_here", "_law_x", "_law_y"]) D sc__law_every (fun T hT cdv A outer s H E hr => ?_)
  have hu : (cxOf (CX P w) P w K mg base ["_law_rooms_here", "_law_x", "_law_y", "_law_inner", "_law_outer", "_law_j", "_law_i"] "_law_every" (defScope s__law_every) f cdv A outer s H E).A.units + 65 < cLine := hu_room hr
  have tk := takes_of (X := (cxOf (CX P w) P w K mg base ["_law_rooms_here", "_law_x", "_law_y", "_law_inner", "_law_outer", "_law_j", "_law_i"] "_law_every" (defScope s__law_every) f cdv A outer s H E)) rfl rfl rfl rfl
  have hx : Lets (cxOf (CX P w) P w K mg base ["_law_rooms_here", "_law_x", "_law_y", "_law_inner", "_law_outer", "_law_j", "_law_i"] "_law_every" (defScope s__law_every) f cdv A outer s H E) E := lets_def tk
  have ho : PassesOwn (model P w) (cxOf (CX P w) P w K mg base ["_law_rooms_here", "_law_x", "_law_y", "_law_inner", "_law_outer", "_law_j", "_law_i"] "_law_every" (defScope s__law_every) f cdv A outer s H E).A (cxOf (CX P w) P w K mg base ["_law_rooms_here", "_law_x", "_law_y", "_law_inner", "_law_outer", "_law_j", "_law_i"] "_law_every" (defScope s__law_every) f cdv A outer s H E).env (cxOf (CX P w) P w K mg base ["_law_rooms_here", "_law_x", "_law_y", "_law_inner", "_law_outer", "_law_j", "_law_i"] "_law_every" (defScope s__law_every) f cdv A outer s H E).xe := passes_of rfl
  exact (ess_cons (es_par 3 4 rfl nd (ea_cons (ev_lc (own := [(("_law_j" : Str), 5)]) mLst_end rfl nd (ei_rg1 rfl F.n_range (ev_ix hu (ev_name 0) (ev_name 2))) (blkOk_by (by first | decide +kernel | rfl)) (fun D s H C cl fp => (egw_name 5 nd)) (fun D s H C cl fp => ets_nil) (fun D s H C cl fp => (ev_tup (ea_cons ev_str (ea_cons (ev_name 5) ea_nil))))) (ea_cons (ev_lc (own := [(("_law_i" : Str), 6)]) mLst_end rfl nd (ei_rg1 rfl F.n_range (ev_ix hu (ev_name 0) (ev_name 1))) (blkOk_by (by first | decide +kernel | rfl)) (fun D s H C cl fp => (egw_name 6 nd)) (fun D s H C cl fp => ets_nil) (fun D s H C cl fp => (ev_tup (ea_cons ev_str (ea_cons (ev_name 6) ea_nil))))) ea_nil)))
  (ess_one (es_ret (ev_add (ev_add (ev_lst (ea_cons (ev_tup (ea_cons ev_str (ea_cons ev_int ea_nil))) ea_nil)) (ev_name 3)) (ev_name 4)))))
theorem ok__law_every (F : Fx P w K mg cs tb) : Cal P w K mg base tb 1 "_law_every" ["_law_rooms_here", "_law_x", "_law_y"] Lib._law_every := by
  obtain ⟨f, fd, D, hm⟩ := F.d__law_every
  exact ⟨f, fd, fn__law_every F D, hm, D.kp, D.bindsN fun _ _ _ _ _ _ us hl => match us, hl with | [_, _, _], _ => rfl⟩

theorem sc__law_pool : FnScope ["_law_script", "_law_k", "_law_cell", "_law_big", "_law_mixed_here"] ["_law_script", "_law_k"] (defScope s__law_pool) := ⟨rfl, rfl, rfl, by decide +kernel, rfl, by decide +kernel, by decide +kernel⟩
theorem fn__law_pool (F : Fx P w K mg cs tb) {f : Addr} {fd : FuncData} (D : FunD K "_law_pool" "_law_pool" (defArgs s__law_pool) (defBody s__law_pool) (defScope s__law_pool) [] [] f fd) : FnD P w K mg base tb 1 f fd ["_law_script", "_law_k"] Lib._law_pool := by
  have nd := sc__law_pool.nd
  refine fn_okK (N := ["_law_script", "_law_k", "_law_cell", "_law_big", "_law_mixed_here"]) (ps := ["_law_script", "_law_k"]) D sc__law_pool (fun T hT cdv A outer s H E hr => ?_)
  have hu : (cxOf (CX P w) P w K mg base ["_law_script", "_law_k", "_law_cell", "_law_big", "_law_mixed_here"] "_law_pool" (defScope s__law_pool) f cdv A outer s H E).A.units + 65 < cLine := hu_room hr
  have tk := takes_of (X := (cxOf (CX P w) P w K mg base ["_law_script", "_law_k", "_law_cell", "_law_big", "_law_mixed_here"] "_law_pool" (defScope s__law_pool) f cdv A outer s H E)) rfl rfl rfl rfl
  have hx : Lets (cxOf (CX P w) P w K mg base ["_law_script", "_law_k", "_law_cell", "_law_big", "_law_mixed_here"] "_law_pool" (defScope s__law_pool) f cdv A outer s H E) E := lets_def tk
  have ho : PassesOwn (model P w) (cxOf (CX P w) P w K mg base ["_law_script", "_law_k", "_law_cell", "_law_big", "_law_mixed_here"] "_law_pool" (defScope s__law_pool) f cdv A outer s H E).A (cxOf (CX P w) P w K mg base ["_law_script", "_law_k", "_law_cell", "_law_big", "_law_mixed_here"] "_law_pool" (defScope s__law_pool) f cdv A outer s H E).env (cxOf (CX P w) P w K mg base ["_law_script", "_law_k", "_law_cell", "_law_big", "_law_mixed_here"] "_law_pool" (defScope s__law_pool) f cdv A outer s H E).xe := passes_of rfl
  exact (ess_cons (es_set 2 nd ev_int)
  (ess_cons (es_if (eb_lt (ev_name 1) (ev_len rfl F.n_len (ea_cons (ev_name 0) ea_nil))) (ess_one (es_set 2 nd (ev_ix hu (ev_name 0) (ev_name 1)))) (ess_one (es_if (eb_ne hu (ev_name 0) (ev_lst ea_nil)) (ess_one (es_set 2 nd (ev_ix hu (ev_name 0) ev_int))) ess_nil)))
  (ess_cons (es_set 3 nd (ev_max rfl rfl F.n_max (ea_cons (ev_intC rfl F.n_int (ea_cons (ev_name 2) ea_nil)) (ea_cons (ev_intC rfl F.n_int (ea_cons (ev_sub (ev_neg ev_int) (ev_name 2)) ea_nil)) ea_nil))))
  (ess_cons (es_set 4 nd (ev_mod (ev_intC rfl F.n_int (ea_cons (ev_mul (ev_add (ev_add (ev_add (ev_mod (ev_intC rfl F.n_int (ea_cons (ev_name 3) ea_nil)) ev_int) (ev_mul (ev_mul ev_int (ev_name 1)) (ev_name 1))) (ev_mul ev_int (ev_name 1))) ev_int) ev_int) ea_nil)) ev_int))
  (ess_one (es_ret (ev_lstR (ea_cons (ev_mul (ev_name 3) (ev_intC rfl F.n_int (ea_cons (ev_and (ev_ge (ev_name 3) (ev_pow ev_int ev_int)) (ev_one (ev_lt (ev_name 1) (ev_len rfl F.n_len (ea_cons (ev_name 0) ea_nil))))) ea_nil))) (ea_cons (ev_name 4) ea_nil)))))))))
theorem ok__law_pool (F : Fx P w K mg cs tb) : Cal P w K mg base tb 1 "_law_pool" ["_law_script", "_law_k"] Lib._law_pool := by
  obtain ⟨f, fd, D, hm⟩ := F.d__law_pool
  exact ⟨f, fd, fn__law_pool F D, hm, D.kp, D.bindsN fun _ _ _ _ _ _ us hl => match us, hl with | [_, _], _ => rfl⟩

theorem sc__law_is_told : FnScope ["_law_told", "_law_due", "_law_at", "_law_t"] ["_law_told", "_law_due"] (defScope s__law_is_told) := ⟨rfl, rfl, rfl, by decide +kernel, rfl, by decide +kernel, by decide +kernel⟩
theorem fn__law_is_told (F : Fx P w K mg cs tb) {f : Addr} {fd : FuncData} (D : FunD K "_law_is_told" "_law_is_told" (defArgs s__law_is_told) (defBody s__law_is_told) (defScope s__law_is_told) [] [] f fd) : FnD P w K mg base tb 1 f fd ["_law_told", "_law_due"] d__law_is_told := by
  have nd := sc__law_is_told.nd
  refine fn_ok (N := ["_law_told", "_law_due", "_law_at", "_law_t"]) (ps := ["_law_told", "_law_due"]) D sc__law_is_told (fun T hT cdv A outer s H E hr => ?_)
  have hu : (cxOf (CX P w) P w K mg base ["_law_told", "_law_due", "_law_at", "_law_t"] "_law_is_told" (defScope s__law_is_told) f cdv A outer s H E).A.units + 65 < cLine := hu_room hr
  have tk := takes_of (X := (cxOf (CX P w) P w K mg base ["_law_told", "_law_due", "_law_at", "_law_t"] "_law_is_told" (defScope s__law_is_told) f cdv A outer s H E)) rfl rfl rfl rfl
  have hx : Lets (cxOf (CX P w) P w K mg base ["_law_told", "_law_due", "_law_at", "_law_t"] "_law_is_told" (defScope s__law_is_told) f cdv A outer s H E) E := lets_def tk
  have ho : PassesOwn (model P w) (cxOf (CX P w) P w K mg base ["_law_told", "_law_due", "_law_at", "_law_t"] "_law_is_told" (defScope s__law_is_told) f cdv A outer s H E).A (cxOf (CX P w) P w K mg base ["_law_told", "_law_due", "_law_at", "_law_t"] "_law_is_told" (defScope s__law_is_told) f cdv A outer s H E).env (cxOf (CX P w) P w K mg base ["_law_told", "_law_due", "_law_at", "_law_t"] "_law_is_told" (defScope s__law_is_told) f cdv A outer s H E).xe := passes_of rfl
  exact (ess_cons (es_if (eb_w (ew_or (eb_not (eb_truth (ev_isi rfl F.n_isinstance (ea_cons (ev_name 0) (ea_cons (ev_bty rfl F.n_tuple (by decide +kernel)) ea_nil))))) (ew_or1 (eb_ne hu (ev_len rfl F.n_len (ea_cons (ev_name 0) ea_nil)) (ev_len rfl F.n_len (ea_cons (ev_name 1) ea_nil)))))) (ess_one (es_ret ev_bl)) ess_nil)
  (ess_cons (es_for [2] ho rfl (ei_rg1 rfl F.n_range (ev_len rfl F.n_len (ea_cons (ev_name 1) ea_nil))) (eg_name 2 nd) (ess_cons (es_if (eb_w (ew_or (eb_not (eb_truth (ev_isi rfl F.n_isinstance (ea_cons (ev_ix hu (ev_name 0) (ev_name 2)) (ea_cons (ev_bty rfl F.n_tuple (by decide +kernel)) ea_nil))))) (ew_or1 (eb_ne hu (ev_ix hu (ev_name 0) (ev_name 2)) (ev_ix hu (ev_name 1) (ev_name 2)))))) (ess_one (es_ret ev_bl)) ess_nil)
  (ess_one (es_if (eb_ne hu (ev_lc (own := [(("_law_t" : Str), 3)]) mLst_end rfl nd (ei_seq (ev_ix hu (ev_name 0) (ev_name 2))) (blkOk_by (by first | decide +kernel | rfl)) (fun D s H C cl fp => (egw_name 3 nd)) (fun D s H C cl fp => (ets_one (eb_truth (ev_isi rfl F.n_isinstance (ea_cons (ev_name 3) (ea_cons (ev_bty rfl F.n_bool (by decide +kernel)) ea_nil)))))) (fun D s H C cl fp => (ev_name 3))) (ev_lst ea_nil)) (ess_one (es_ret ev_bl)) ess_nil))))
  (ess_one (es_ret ev_bl))))
theorem ok__law_is_told (F : Fx P w K mg cs tb) : Cal P w K mg base tb 1 "_law_is_told" ["_law_told", "_law_due"] d__law_is_told := by
  obtain ⟨f, fd, D, hm⟩ := F.d__law_is_told
  exact ⟨f, fd, fn__law_is_told F D, hm, D.kp, D.bindsN fun _ _ _ _ _ _ us hl => match us, hl with | [_, _], _ => rfl⟩

theorem sc__law_take : FnScope ["_law_source", "_law_top", "_law_drawn"] ["_law_source", "_law_top"] (defScope s__law_take) := ⟨rfl, rfl, rfl, by decide +kernel, rfl, by decide +kernel, by decide +kernel⟩
theorem fn__law_take (F : Fx P w K mg cs tb) {f : Addr} {fd : FuncData} (D : FunD K "_law_take" "_law_take" (defArgs s__law_take) (defBody s__law_take) (defScope s__law_take) [] [] f fd) : FnD P w K mg base tb 1 f fd ["_law_source", "_law_top"] Lib._law_take := by
  have nd := sc__law_take.nd
  refine fn_ok (N := ["_law_source", "_law_top", "_law_drawn"]) (ps := ["_law_source", "_law_top"]) D sc__law_take (fun T hT cdv A outer s H E hr => ?_)
  have hu : (cxOf (CX P w) P w K mg base ["_law_source", "_law_top", "_law_drawn"] "_law_take" (defScope s__law_take) f cdv A outer s H E).A.units + 65 < cLine := hu_room hr
  have tk := takes_of (X := (cxOf (CX P w) P w K mg base ["_law_source", "_law_top", "_law_drawn"] "_law_take" (defScope s__law_take) f cdv A outer s H E)) rfl rfl rfl rfl
  have hx : Lets (cxOf (CX P w) P w K mg base ["_law_source", "_law_top", "_law_drawn"] "_law_take" (defScope s__law_take) f cdv A outer s H E) E := lets_def tk
  have ho : PassesOwn (model P w) (cxOf (CX P w) P w K mg base ["_law_source", "_law_top", "_law_drawn"] "_law_take" (defScope s__law_take) f cdv A outer s H E).A (cxOf (CX P w) P w K mg base ["_law_source", "_law_top", "_law_drawn"] "_law_take" (defScope s__law_take) f cdv A outer s H E).env (cxOf (CX P w) P w K mg base ["_law_source", "_law_top", "_law_drawn"] "_law_take" (defScope s__law_take) f cdv A outer s H E).xe := passes_of rfl
  exact (ess_cons (es_if (eb_gt (ev_ix hu (ev_name 0) ev_int) ev_int) (ess_cons (es_set 2 nd (ev_mod (ev_intC rfl F.n_int (ea_cons (ev_ix hu (ev_name 0) ev_int) ea_nil)) (ev_name 1)))
  (ess_cons (es_asg (ev_div (ev_ix hu (ev_name 0) ev_int) (ev_name 1)) (eg_sub hu (ev_name 0) ev_int))
  (ess_one (es_ret (ev_name 2))))) ess_nil)
  (ess_cons (es_asg (ev_mod (ev_intC rfl F.n_int (ea_cons (ev_add (ev_mul (ev_ix hu (ev_name 0) ev_int) ev_int) ev_int) ea_nil)) ev_int) (eg_sub hu (ev_name 0) ev_int))
  (ess_one (es_ret (ev_mod (ev_intC rfl F.n_int (ea_cons (ev_div (ev_mod (ev_intC rfl F.n_int (ea_cons (ev_mul (ev_ix hu (ev_name 0) ev_int) (ev_ix hu (ev_name 0) ev_int)) ea_nil)) ev_int) ev_int) ea_nil)) (ev_name 1))))))
theorem ok__law_take (F : Fx P w K mg cs tb) : Cal P w K mg base tb 1 "_law_take" ["_law_source", "_law_top"] Lib._law_take := by
  obtain ⟨f, fd, D, hm⟩ := F.d__law_take
  exact ⟨f, fd, fn__law_take F D, hm, D.kp, D.bindsN fun _ _ _ _ _ _ us hl => match us, hl with | [_, _], _ => rfl⟩

theorem sc__law_one : FnScope ["_law_source", "_law_things"] ["_law_source", "_law_things"] (defScope s__law_one) := ⟨rfl, rfl, rfl, by decide +kernel, rfl, by decide +kernel, by decide +kernel⟩
theorem fn__law_one (F : Fx P w K mg cs tb) {f : Addr} {fd : FuncData} (D : FunD K "_law_one" "_law_one" (defArgs s__law_one) (defBody s__law_one) (defScope s__law_one) [] [] f fd) : FnD P w K mg base tb 2 f fd ["_law_source", "_law_things"] Lib._law_one := by
  have nd := sc__law_one.nd
  refine fn_ok (N := ["_law_source", "_law_things"]) (ps := ["_law_source", "_law_things"]) D sc__law_one (fun T hT cdv A outer s H E hr => ?_)
  have hu : (cxOf (CX P w) P w K mg base ["_law_source", "_law_things"] "_law_one" (defScope s__law_one) f cdv A outer s H E).A.units + 65 < cLine := hu_room hr
  have tk := takes_of (X := (cxOf (CX P w) P w K mg base ["_law_source", "_law_things"] "_law_one" (defScope s__law_one) f cdv A outer s H E)) rfl rfl rfl rfl
  have hx : Lets (cxOf (CX P w) P w K mg base ["_law_source", "_law_things"] "_law_one" (defScope s__law_one) f cdv A outer s H E) E := lets_def tk
  have ho : PassesOwn (model P w) (cxOf (CX P w) P w K mg base ["_law_source", "_law_things"] "_law_one" (defScope s__law_one) f cdv A outer s H E).A (cxOf (CX P w) P w K mg base ["_law_source", "_law_things"] "_law_one" (defScope s__law_one) f cdv A outer s H E).env (cxOf (CX P w) P w K mg base ["_law_source", "_law_things"] "_law_one" (defScope s__law_one) f cdv A outer s H E).xe := passes_of rfl
  exact (ess_one (es_ret (ev_ix hu (ev_name 1) (ev_cal (ok__law_take F) (hr.mono (by decide)) rfl hT hx (ea_cons (ev_name 0) (ea_cons (ev_len rfl F.n_len (ea_cons (ev_name 1) ea_nil)) ea_nil))))))
theorem ok__law_one (F : Fx P w K mg cs tb) : Cal P w K mg base tb 2 "_law_one" ["_law_source", "_law_things"] Lib._law_one := by
  obtain ⟨f, fd, D, hm⟩ := F.d__law_one
  exact ⟨f, fd, fn__law_one F D, hm, D.kp, D.bindsN fun _ _ _ _ _ _ us hl => match us, hl with | [_, _], _ => rfl⟩

theorem sc__law_rooms : FnScope ["_law_source", "_law_many", "_law_x"] ["_law_source", "_law_many"] (defScope s__law_rooms) := ⟨rfl, rfl, rfl, by decide +kernel, rfl, by decide +kernel, by decide +kernel⟩
theorem fn__law_rooms (F : Fx P w K mg cs tb) {f : Addr} {fd : FuncData} (D : FunD K "_law_rooms" "_law_rooms" (defArgs s__law_rooms) (defBody s__law_rooms) (defScope s__law_rooms) [] [] f fd) : FnD P w K mg base tb 3 f fd ["_law_source", "_law_many"] Lib._law_rooms := by
  have nd := sc__law_rooms.nd
  refine fn_ok (N := ["_law_source", "_law_many", "_law_x"]) (ps := ["_law_source", "_law_many"]) D sc__law_rooms (fun T hT cdv A outer s H E hr => ?_)
  have hu : (cxOf (CX P w) P w K mg base ["_law_source", "_law_many", "_law_x"] "_law_rooms" (defScope s__law_rooms) f cdv A outer s H E).A.units + 65 < cLine := hu_room hr
  have tk := takes_of (X := (cxOf (CX P w) P w K mg base ["_law_source", "_law_many", "_law_x"] "_law_rooms" (defScope s__law_rooms) f cdv A outer s H E)) rfl rfl rfl rfl
  have hx : Lets (cxOf (CX P w) P w K mg base ["_law_source", "_law_many", "_law_x"] "_law_rooms" (defScope s__law_rooms) f cdv A outer s H E) E := lets_def tk
  have ho : PassesOwn (model P w) (cxOf (CX P w) P w K mg base ["_law_source", "_law_many", "_law_x"] "_law_rooms" (defScope s__law_rooms) f cdv A outer s H E).A (cxOf (CX P w) P w K mg base ["_law_source", "_law_many", "_law_x"] "_law_rooms" (defScope s__law_rooms) f cdv A outer s H E).env (cxOf (CX P w) P w K mg base ["_law_source", "_law_many", "_law_x"] "_law_rooms" (defScope s__law_rooms) f cdv A outer s H E).xe := passes_of rfl
  exact (ess_one (es_ret (ev_tupC rfl F.n_tuple (ea_cons (ev_lc (own := [(("_law_x" : Str), 2)]) mLst_end rfl nd (ei_rg1 rfl F.n_range (ev_name 1)) (blkOk_by (by first | decide +kernel | rfl)) (fun D s H C cl fp => (egw_name 2 nd)) (fun D s H C cl fp => ets_nil) (fun D s H C cl fp => (ev_cal (ok__law_one F) (hr.mono (by decide)) rfl hT lets_never (ea_cons (ev_name 0) (ea_cons (ev_lst (ea_cons ev_int (ea_cons ev_int (ea_cons ev_int (ea_cons ev_int (ea_cons ev_int (ea_cons ev_int (ea_cons ev_int (ea_cons ev_int ea_nil))))))))) ea_nil))))) ea_nil))))
theorem ok__law_rooms (F : Fx P w K mg cs tb) : Cal P w K mg base tb 3 "_law_rooms" ["_law_source", "_law_many"] Lib._law_rooms := by
  obtain ⟨f, fd, D, hm⟩ := F.d__law_rooms
  exact ⟨f, fd, fn__law_rooms F D, hm, D.kp, D.bindsN fun _ _ _ _ _ _ us hl => match us, hl with | [_, _], _ => rfl⟩

theorem sc__law_other : FnScope ["_law_source", "_law_x", "_law_many"] ["_law_source", "_law_x", "_law_many"] (defScope s__law_other) := ⟨rfl, rfl, rfl, by decide +kernel, rfl, by decide +kernel, by decide +kernel⟩
theorem fn__law_other (F : Fx P w K mg cs tb) {f : Addr} {fd : FuncData} (D : FunD K "_law_other" "_law_other" (defArgs s__law_other) (defBody s__law_other) (defScope s__law_other) [] [] f fd) : FnD P w K mg base tb 2 f fd ["_law_source", "_law_x", "_law_many"] Lib._law_other := by
  have nd := sc__law_other.nd
  refine fn_ok (N := ["_law_source", "_law_x", "_law_many"]) (ps := ["_law_source", "_law_x", "_law_many"]) D sc__law_other (fun T hT cdv A outer s H E hr => ?_)
  have hu : (cxOf (CX P w) P w K mg base ["_law_source", "_law_x", "_law_many"] "_law_other" (defScope s__law_other) f cdv A outer s H E).A.units + 65 < cLine := hu_room hr
  have tk := takes_of (X := (cxOf (CX P w) P w K mg base ["_law_source", "_law_x", "_law_many"] "_law_other" (defScope s__law_other) f cdv A outer s H E)) rfl rfl rfl rfl
  have hx : Lets (cxOf (CX P w) P w K mg base ["_law_source", "_law_x", "_law_many"] "_law_other" (defScope s__law_other) f cdv A outer s H E) E := lets_def tk
  have ho : PassesOwn (model P w) (cxOf (CX P w) P w K mg base ["_law_source", "_law_x", "_law_many"] "_law_other" (defScope s__law_other) f cdv A outer s H E).A (cxOf (CX P w) P w K mg base ["_law_source", "_law_x", "_law_many"] "_law_other" (defScope s__law_other) f cdv A outer s H E).env (cxOf (CX P w) P w K mg base ["_law_source", "_law_x", "_law_many"] "_law_other" (defScope s__law_other) f cdv A outer s H E).xe := passes_of rfl
  exact (ess_one (es_ret (ev_mod (ev_intC rfl F.n_int (ea_cons (ev_add (ev_add (ev_name 1) ev_int) (ev_cal (ok__law_take F) (hr.mono (by decide)) rfl hT hx (ea_cons (ev_name 0) (ea_cons (ev_sub (ev_name 2) ev_int) ea_nil)))) ea_nil)) (ev_name 2))))
theorem ok__law_other (F : Fx P w K mg cs tb) : Cal P w K mg base tb 2 "_law_other" ["_law_source", "_law_x", "_law_many"] Lib._law_other := by
  obtain ⟨f, fd, D, hm⟩ := F.d__law_other
  exact ⟨f, fd, fn__law_other F D, hm, D.kp, D.bindsN fun _ _ _ _ _ _ us hl => match us, hl with | [_, _, _], _ => rfl⟩

theorem sc__law_lot : FnScope ["_law_source", "_law_rooms_here", "_law_x", "_law_y", "_law_every_here", "_law_way", "_law_standing"] ["_law_source", "_law_rooms_here", "_law_x", "_law_y"] (defScope s__law_lot) := ⟨rfl, rfl, rfl, by decide +kernel, rfl, by decide +kernel, by decide +kernel⟩
theorem fn__law_lot (F : Fx P w K mg cs tb) {f : Addr} {fd : FuncData} (D : FunD K "_law_lot" "_law_lot" (defArgs s__law_lot) (defBody s__law_lot) (defScope s__law_lot) [] [] f fd) : FnD P w K mg base tb 2 f fd ["_law_source", "_law_rooms_here", "_law_x", "_law_y"] Lib._law_lot := by
  have nd := sc__law_lot.nd
  refine fn_ok (N := ["_law_source", "_law_rooms_here", "_law_x", "_law_y", "_law_every_here", "_law_way", "_law_standing"]) (ps := ["_law_source", "_law_rooms_here", "_law_x", "_law_y"]) D sc__law_lot (fun T hT cdv A outer s H E hr => ?_)
  have hu : (cxOf (CX P w) P w K mg base ["_law_source", "_law_rooms_here", "_law_x", "_law_y", "_law_every_here", "_law_way", "_law_standing"] "_law_lot" (defScope s__law_lot) f cdv A outer s H E).A.units + 65 < cLine := hu_room hr
  have tk := takes_of (X := (cxOf (CX P w) P w K mg base ["_law_source", "_law_rooms_here", "_law_x", "_law_y", "_law_every_here", "_law_way", "_law_standing"] "_law_lot" (defScope s__law_lot) f cdv A outer s H E)) rfl rfl rfl rfl
  have hx : Lets (cxOf (CX P w) P w K mg base ["_law_source", "_law_rooms_here", "_law_x", "_law_y", "_law_every_here", "_law_way", "_law_standing"] "_law_lot" (defScope s__law_lot) f cdv A outer s H E) E := lets_def tk
  have ho : PassesOwn (model P w) (cxOf (CX P w) P w K mg base ["_law_source", "_law_rooms_here", "_law_x", "_law_y", "_law_every_here", "_law_way", "_law_standing"] "_law_lot" (defScope s__law_lot) f cdv A outer s H E).A (cxOf (CX P w) P w K mg base ["_law_source", "_law_rooms_here", "_law_x", "_law_y", "_law_every_here", "_law_way", "_law_standing"] "_law_lot" (defScope s__law_lot) f cdv A outer s H E).env (cxOf (CX P w) P w K mg base ["_law_source", "_law_rooms_here", "_law_x", "_law_y", "_law_every_here", "_law_way", "_law_standing"] "_law_lot" (defScope s__law_lot) f cdv A outer s H E).xe := passes_of rfl
  exact (ess_cons (es_par 4 5 rfl nd (ea_cons (ev_cal (ok__law_every F) (hr.mono (by decide)) rfl hT hx (ea_cons (ev_name 1) (ea_cons (ev_name 2) (ea_cons (ev_name 3) ea_nil)))) (ea_cons (ev_cal (ok__law_take F) (hr.mono (by decide)) rfl hT hx (ea_cons (ev_name 0) (ea_cons ev_int ea_nil))) ea_nil)))
  (ess_cons (es_if (eb_lt (ev_name 5) ev_int) (ess_one (es_ret (ev_ix hu (ev_lst (ea_cons (ev_tup ea_nil) (ea_cons (ev_tupC rfl F.n_tuple (ea_cons (ev_name 4) ea_nil)) (ea_cons (ev_tupC rfl F.n_tuple (ea_cons (ev_sl (ev_name 4) (eo_some ev_int) eo_none) ea_nil)) ea_nil)))) (ev_name 5)))) ess_nil)
  (ess_one (es_ret (ev_tupC rfl F.n_tuple (ea_cons (ev_lc (own := [(("_law_standing" : Str), 6)]) mLst_end rfl nd (ei_seq (ev_name 4)) (blkOk_by (by first | decide +kernel | rfl)) (fun D s H C cl fp => (egw_name 6 nd)) (fun D s H C cl fp => (ets_one (eb_eq hu (ev_cal (ok__law_take F) (hr.mono (by decide)) rfl hT lets_never (ea_cons (ev_name 0) (ea_cons ev_int ea_nil))) ev_int))) (fun D s H C cl fp => (ev_name 6))) ea_nil))))))
theorem ok__law_lot (F : Fx P w K mg cs tb) : Cal P w K mg base tb 2 "_law_lot" ["_law_source", "_law_rooms_here", "_law_x", "_law_y"] Lib._law_lot := by
  obtain ⟨f, fd, D, hm⟩ := F.d__law_lot
  exact ⟨f, fd, fn__law_lot F D, hm, D.kp, D.bindsN fun _ _ _ _ _ _ us hl => match us, hl with | [_, _, _, _], _ => rfl⟩

theorem sc__law_book : FnScope ["_law_source", "_law_many", "_law_turn", "_law_rooms_here", "_law_sayings", "_law_is_bound", "_law_x", "_law_y", "_law_lot_here"] ["_law_source", "_law_many"] (defScope s__law_book) := ⟨rfl, rfl, rfl, by decide +kernel, rfl, by decide +kernel, by decide +kernel⟩
theorem fn__law_book (F : Fx P w K mg cs tb) {f : Addr} {fd : FuncData} (D : FunD K "_law_book" "_law_book" (defArgs s__law_book) (defBody s__law_book) (defScope s__law_book) [] [] f fd) : FnD P w K mg base tb 4 f fd ["_law_source", "_law_many"] d__law_book := by
  have nd := sc__law_book.nd
  refine fn_ok (N := ["_law_source", "_law_many", "_law_turn", "_law_rooms_here", "_law_sayings", "_law_is_bound", "_law_x", "_law_y", "_law_lot_here"]) (ps := ["_law_source", "_law_many"]) D sc__law_book (fun T hT cdv A outer s H E hr => ?_)
  have hu : (cxOf (CX P w) P w K mg base ["_law_source", "_law_many", "_law_turn", "_law_rooms_here", "_law_sayings", "_law_is_bound", "_law_x", "_law_y", "_law_lot_here"] "_law_book" (defScope s__law_book) f cdv A outer s H E).A.units + 65 < cLine := hu_room hr
  have tk := takes_of (X := (cxOf (CX P w) P w K mg base ["_law_source", "_law_many", "_law_turn", "_law_rooms_here", "_law_sayings", "_law_is_bound", "_law_x", "_law_y", "_law_lot_here"] "_law_book" (defScope s__law_book) f cdv A outer s H E)) rfl rfl rfl rfl
  have hx : Lets (cxOf (CX P w) P w K mg base ["_law_source", "_law_many", "_law_turn", "_law_rooms_here", "_law_sayings", "_law_is_bound", "_law_x", "_law_y", "_law_lot_here"] "_law_book" (defScope s__law_book) f cdv A outer s H E) E := lets_def tk
  have ho : PassesOwn (model P w) (cxOf (CX P w) P w K mg base ["_law_source", "_law_many", "_law_turn", "_law_rooms_here", "_law_sayings", "_law_is_bound", "_law_x", "_law_y", "_law_lot_here"] "_law_book" (defScope s__law_book) f cdv A outer s H E).A (cxOf (CX P w) P w K mg base ["_law_source", "_law_many", "_law_turn", "_law_rooms_here", "_law_sayings", "_law_is_bound", "_law_x", "_law_y", "_law_lot_here"] "_law_book" (defScope s__law_book) f cdv A outer s H E).env (cxOf (CX P w) P w K mg base ["_law_source", "_law_many", "_law_turn", "_law_rooms_here", "_law_sayings", "_law_is_bound", "_law_x", "_law_y", "_law_lot_here"] "_law_book" (defScope s__law_book) f cdv A outer s H E).xe := passes_of rfl
  exact (ess_cons (es_par3 3 4 5 rfl nd (ea_cons (ev_cal (ok__law_rooms F) (hr.mono (by decide)) rfl hT hx (ea_cons (ev_name 0) (ea_cons (ev_name 1) ea_nil))) (ea_cons (ev_lstR ea_nil) (ea_cons (ev_eq hu (ev_cal (ok__law_take F) (hr.mono (by decide)) rfl hT hx (ea_cons (ev_name 0) (ea_cons ev_int ea_nil))) ev_int) ea_nil))))
  (ess_cons (es_for [2, 6, 7, 8] ho rfl (ei_rg1 rfl F.n_range (ev_cal (ok__law_take F) (hr.mono (by decide)) rfl hT hx (ea_cons (ev_name 0) (ea_cons ev_int ea_nil)))) (eg_name 2 nd) (ess_cons (es_set 6 nd (ev_cal (ok__law_take F) (hr.mono (by decide)) rfl hT hx (ea_cons (ev_name 0) (ea_cons (ev_name 1) ea_nil))))
  (ess_cons (es_set 7 nd (ev_cal (ok__law_other F) (hr.mono (by decide)) rfl hT hx (ea_cons (ev_name 0) (ea_cons (ev_name 6) (ea_cons (ev_name 1) ea_nil)))))
  (ess_cons (es_set 8 nd (ev_if (eb_truth (ev_name 5)) (ev_tupC rfl F.n_tuple (ea_cons (ev_sl (ev_cal (ok__law_every F) (hr.mono (by decide)) rfl hT hx (ea_cons (ev_name 3) (ea_cons (ev_name 6) (ea_cons (ev_name 7) ea_nil)))) (eo_some ev_int) eo_none) ea_nil)) (ev_cal (ok__law_lot F) (hr.mono (by decide)) rfl hT hx (ea_cons (ev_name 0) (ea_cons (ev_name 3) (ea_cons (ev_name 6) (ea_cons (ev_name 7) ea_nil)))))))
  (ess_one (es_expr (ev_append (ev_name 4) (ev_tup (ea_cons (ev_name 6) (ea_cons (ev_name 7) (ea_cons (ev_name 8) ea_nil)))))))))))
  (ess_one (es_ret (ev_tup (ea_cons (ev_name 3) (ea_cons (ev_name 4) ea_nil)))))))
theorem ok__law_book (F : Fx P w K mg cs tb) : Cal P w K mg base tb 4 "_law_book" ["_law_source", "_law_many"] d__law_book := by
  obtain ⟨f, fd, D, hm⟩ := F.d__law_book
  exact ⟨f, fd, fn__law_book F D, hm, D.kp, D.bindsN fun _ _ _ _ _ _ us hl => match us, hl with | [_, _], _ => rfl⟩

theorem sc__law_mixed : FnScope ["_law_source", "_law_things", "_law_turn", "_law_left", "_law_found"] ["_law_source", "_law_things"] (defScope s__law_mixed) := ⟨rfl, rfl, rfl, by decide +kernel, rfl, by decide +kernel, by decide +kernel⟩
theorem fn__law_mixed (F : Fx P w K mg cs tb) {f : Addr} {fd : FuncData} (D : FunD K "_law_mixed" "_law_mixed" (defArgs s__law_mixed) (defBody s__law_mixed) (defScope s__law_mixed) [] [] f fd) : FnD P w K mg base tb 2 f fd ["_law_source", "_law_things"] Lib._law_mixed := by
  have nd := sc__law_mixed.nd
  refine fn_ok (N := ["_law_source", "_law_things", "_law_turn", "_law_left", "_law_found"]) (ps := ["_law_source", "_law_things"]) D sc__law_mixed (fun T hT cdv A outer s H E hr => ?_)
  have hu : (cxOf (CX P w) P w K mg base ["_law_source", "_law_things", "_law_turn", "_law_left", "_law_found"] "_law_mixed" (defScope s__law_mixed) f cdv A outer s H E).A.units + 65 < cLine := hu_room hr
  have tk := takes_of (X := (cxOf (CX P w) P w K mg base ["_law_source", "_law_things", "_law_turn", "_law_left", "_law_found"] "_law_mixed" (defScope s__law_mixed) f cdv A outer s H E)) rfl rfl rfl rfl
  have hx : Lets (cxOf (CX P w) P w K mg base ["_law_source", "_law_things", "_law_turn", "_law_left", "_law_found"] "_law_mixed" (defScope s__law_mixed) f cdv A outer s H E) E := lets_def tk
  have ho : PassesOwn (model P w) (cxOf (CX P w) P w K mg base ["_law_source", "_law_things", "_law_turn", "_law_left", "_law_found"] "_law_mixed" (defScope s__law_mixed) f cdv A outer s H E).A (cxOf (CX P w) P w K mg base ["_law_source", "_law_things", "_law_turn", "_law_left", "_law_found"] "_law_mixed" (defScope s__law_mixed) f cdv A outer s H E).env (cxOf (CX P w) P w K mg base ["_law_source", "_law_things", "_law_turn", "_law_left", "_law_found"] "_law_mixed" (defScope s__law_mixed) f cdv A outer s H E).xe := passes_of rfl
  exact (ess_cons (es_par 3 4 rfl nd (ea_cons (ev_lstCR rfl F.n_list (ea_cons (ev_name 1) ea_nil)) (ea_cons (ev_lstR ea_nil) ea_nil)))
  (ess_cons (es_for [2] ho rfl (ei_rg1 rfl F.n_range (ev_len rfl F.n_len (ea_cons (ev_name 1) ea_nil))) (eg_name 2 nd) (ess_one (es_expr (ev_append (ev_name 4) (ev_pop1 (ev_name 3) (ev_cal (ok__law_take F) (hr.mono (by decide)) rfl hT hx (ea_cons (ev_name 0) (ea_cons (ev_len rfl F.n_len (ea_cons (ev_name 3) ea_nil)) ea_nil))))))))
  (ess_one (es_ret (ev_name 4)))))
theorem ok__law_mixed (F : Fx P w K mg cs tb) : Cal P w K mg base tb 2 "_law_mixed" ["_law_source", "_law_things"] Lib._law_mixed := by
  obtain ⟨f, fd, D, hm⟩ := F.d__law_mixed
  exact ⟨f, fd, fn__law_mixed F D, hm, D.kp, D.bindsN fun _ _ _ _ _ _ us hl => match us, hl with | [_, _], _ => rfl⟩

theorem sc__law_chain : FnScope ["_law_source", "_law_many", "_law_at", "_law_order", "_law_sayings", "_law_rooms_here", "_law_x", "_law_y"] ["_law_source", "_law_many"] (defScope s__law_chain) := ⟨rfl, rfl, rfl, by decide +kernel, rfl, by decide +kernel, by decide +kernel⟩
theorem fn__law_chain (F : Fx P w K mg cs tb) {f : Addr} {fd : FuncData} (D : FunD K "_law_chain" "_law_chain" (defArgs s__law_chain) (defBody s__law_chain) (defScope s__law_chain) [] [] f fd) : FnD P w K mg base tb 4 f fd ["_law_source", "_law_many"] d__law_chain := by
  have nd := sc__law_chain.nd
  refine fn_ok (N := ["_law_source", "_law_many", "_law_at", "_law_order", "_law_sayings", "_law_rooms_here", "_law_x", "_law_y"]) (ps := ["_law_source", "_law_many"]) D sc__law_chain (fun T hT cdv A outer s H E hr => ?_)
  have hu : (cxOf (CX P w) P w K mg base ["_law_source", "_law_many", "_law_at", "_law_order", "_law_sayings", "_law_rooms_here", "_law_x", "_law_y"] "_law_chain" (defScope s__law_chain) f cdv A outer s H E).A.units + 65 < cLine := hu_room hr
  have tk := takes_of (X := (cxOf (CX P w) P w K mg base ["_law_source", "_law_many", "_law_at", "_law_order", "_law_sayings", "_law_rooms_here", "_law_x", "_law_y"] "_law_chain" (defScope s__law_chain) f cdv A outer s H E)) rfl rfl rfl rfl
  have hx : Lets (cxOf (CX P w) P w K mg base ["_law_source", "_law_many", "_law_at", "_law_order", "_law_sayings", "_law_rooms_here", "_law_x", "_law_y"] "_law_chain" (defScope s__law_chain) f cdv A outer s H E) E := lets_def tk
  have ho : PassesOwn (model P w) (cxOf (CX P w) P w K mg base ["_law_source", "_law_many", "_law_at", "_law_order", "_law_sayings", "_law_rooms_here", "_law_x", "_law_y"] "_law_chain" (defScope s__law_chain) f cdv A outer s H E).A (cxOf (CX P w) P w K mg base ["_law_source", "_law_many", "_law_at", "_law_order", "_law_sayings", "_law_rooms_here", "_law_x", "_law_y"] "_law_chain" (defScope s__law_chain) f cdv A outer s H E).env (cxOf (CX P w) P w K mg base ["_law_source", "_law_many", "_law_at", "_law_order", "_law_sayings", "_law_rooms_here", "_law_x", "_law_y"] "_law_chain" (defScope s__law_chain) f cdv A outer s H E).xe := passes_of rfl
  exact (ess_cons (es_par3 3 4 5 rfl nd (ea_cons (ev_cal (ok__law_mixed F) (hr.mono (by decide)) rfl hT hx (ea_cons (ev_name 0) (ea_cons (ev_lstRg rfl rfl F.n_list rfl F.n_range (ev_name 1)) ea_nil))) (ea_cons (ev_lstR ea_nil) (ea_cons (ev_cal (ok__law_rooms F) (hr.mono (by decide)) rfl hT hx (ea_cons (ev_name 0) (ea_cons (ev_name 1) ea_nil))) ea_nil))))
  (ess_cons (es_for [2, 6, 7] ho rfl (ei_rg1 rfl F.n_range (ev_sub (ev_name 1) ev_int)) (eg_name 2 nd) (ess_cons (es_par 6 7 rfl nd (ea_cons (ev_ix hu (ev_name 3) (ev_name 2)) (ea_cons (ev_ix hu (ev_name 3) (ev_add (ev_name 2) ev_int)) ea_nil)))
  (ess_one (es_expr (ev_append (ev_name 4) (ev_tup (ea_cons (ev_name 6) (ea_cons (ev_name 7) (ea_cons (ev_tupC rfl F.n_tuple (ea_cons (ev_sl (ev_cal (ok__law_every F) (hr.mono (by decide)) rfl hT hx (ea_cons (ev_name 5) (ea_cons (ev_name 6) (ea_cons (ev_name 7) ea_nil)))) (eo_some ev_int) eo_none) ea_nil)) ea_nil)))))))))
  (ess_one (es_ret (ev_tup (ea_cons (ev_name 5) (ea_cons (ev_cal (ok__law_mixed F) (hr.mono (by decide)) rfl hT hx (ea_cons (ev_name 0) (ea_cons (ev_name 4) ea_nil))) ea_nil)))))))
theorem ok__law_chain (F : Fx P w K mg cs tb) : Cal P w K mg base tb 4 "_law_chain" ["_law_source", "_law_many"] d__law_chain := by
  obtain ⟨f, fd, D, hm⟩ := F.d__law_chain
  exact ⟨f, fd, fn__law_chain F D, hm, D.kp, D.bindsN fun _ _ _ _ _ _ us hl => match us, hl with | [_, _], _ => rfl⟩

theorem sc__law_closed : FnScope ["_law_links", "_law_lot_here", "_law_rows", "_law_x", "_law_y", "_law_joined", "_law_row"] ["_law_links", "_law_lot_here"] (defScope s__law_closed) := ⟨rfl, rfl, rfl, by decide +kernel, rfl, by decide +kernel, by decide +kernel⟩
theorem fn__law_closed (F : Fx P w K mg cs tb) {f : Addr} {fd : FuncData} (D : FunD K "_law_closed" "_law_closed" (defArgs s__law_closed) (defBody s__law_closed) (defScope s__law_closed) [] [] f fd) : FnD P w K mg base tb 1 f fd ["_law_links", "_law_lot_here"] d__law_closed := by
  have nd := sc__law_closed.nd
  refine fn_ok (N := ["_law_links", "_law_lot_here", "_law_rows", "_law_x", "_law_y", "_law_joined", "_law_row"]) (ps := ["_law_links", "_law_lot_here"]) D sc__law_closed (fun T hT cdv A outer s H E hr => ?_)
  have hu : (cxOf (CX P w) P w K mg base ["_law_links", "_law_lot_here", "_law_rows", "_law_x", "_law_y", "_law_joined", "_law_row"] "_law_closed" (defScope s__law_closed) f cdv A outer s H E).A.units + 65 < cLine := hu_room hr
  have tk := takes_of (X := (cxOf (CX P w) P w K mg base ["_law_links", "_law_lot_here", "_law_rows", "_law_x", "_law_y", "_law_joined", "_law_row"] "_law_closed" (defScope s__law_closed) f cdv A outer s H E)) rfl rfl rfl rfl
  have hx : Lets (cxOf (CX P w) P w K mg base ["_law_links", "_law_lot_here", "_law_rows", "_law_x", "_law_y", "_law_joined", "_law_row"] "_law_closed" (defScope s__law_closed) f cdv A outer s H E) E := lets_def tk
  have ho : PassesOwn (model P w) (cxOf (CX P w) P w K mg base ["_law_links", "_law_lot_here", "_law_rows", "_law_x", "_law_y", "_law_joined", "_law_row"] "_law_closed" (defScope s__law_closed) f cdv A outer s H E).A (cxOf (CX P w) P w K mg base ["_law_links", "_law_lot_here", "_law_rows", "_law_x", "_law_y", "_law_joined", "_law_row"] "_law_closed" (defScope s__law_closed) f cdv A outer s H E).env (cxOf (CX P w) P w K mg base ["_law_links", "_law_lot_here", "_law_rows", "_law_x", "_law_y", "_law_joined", "_law_row"] "_law_closed" (defScope s__law_closed) f cdv A outer s H E).xe := passes_of rfl
  exact (ess_cons (by first | exact (es_setLc (own := [(("_law_x" : Str), 3)]) mLst_end rfl nd rfl rfl (sw_true rfl rfl rfl (by decide +kernel)) (ei_seq (ev_name 1)) (blkOk_by (by first | decide +kernel | rfl)) (fun D s H C cl fp => (egw_name 3 nd)) (fun D s H C cl fp => ets_nil) (fun D s H C cl fp => (ev_lst (ea_cons (ev_name 3) ea_nil)))) | exact (es_set 2 nd (ev_lc (own := [(("_law_x" : Str), 3)]) mLst_end rfl nd (ei_seq (ev_name 1)) (blkOk_by (by first | decide +kernel | rfl)) (fun D s H C cl fp => (egw_name 3 nd)) (fun D s H C cl fp => ets_nil) (fun D s H C cl fp => (ev_lst (ea_cons (ev_name 3) ea_nil))))))
  (ess_cons (es_for [3, 4, 5, 6] ho rfl (ei_seq (ev_name 0)) (eg_tup rfl (egs_cons (eg_name 3 nd) (egs_cons (eg_name 4 nd) egs_nil))) (ess_one (es_if (eb_w (ew_and (eb_in hu (ev_name 3) (ev_name 1)) (ew_and1 (eb_in hu (ev_name 4) (ev_name 1))))) (ess_cons (es_set 5 nd (ev_lst ea_nil))
  (ess_cons (es_for [6] ho rfl (ei_seq (ev_name 2)) (eg_name 6 nd) (ess_one (es_if (eb_w (ew_or (eb_in hu (ev_name 3) (ev_name 6)) (ew_or1 (eb_in hu (ev_name 4) (ev_name 6))))) (ess_one (es_set 5 nd (ev_add (ev_name 5) (ev_name 6)))) ess_nil)))
  (ess_one (es_set 2 nd (ev_add (ev_lc (own := [(("_law_row" : Str), 6)]) mLst_end rfl nd (ei_seq (ev_name 2)) (blkOk_by (by first | decide +kernel | rfl)) (fun D s H C cl fp => (egw_name 6 nd)) (fun D s H C cl fp => (ets_one (eb_w (ew_and (eb_notIn hu (ev_name 3) (ev_name 6)) (ew_and1 (eb_notIn hu (ev_name 4) (ev_name 6))))))) (fun D s H C cl fp => (ev_name 6))) (ev_lst (ea_cons (ev_name 5) ea_nil))))))) ess_nil)))
  (ess_one (es_ret (ev_tupC rfl F.n_tuple (ea_cons (ev_srtT rfl F.n_sorted (ea_cons (ev_lc (own := [(("_law_row" : Str), 6)]) mLst_end rfl nd (ei_seq (ev_name 2)) (blkOk_by (by first | decide +kernel | rfl)) (fun D s H C cl fp => (egw_name 6 nd)) (fun D s H C cl fp => ets_nil) (fun D s H C cl fp => (ev_tupC rfl F.n_tuple (ea_cons (ev_srtI rfl F.n_sorted (ea_cons (ev_name 6) ea_nil)) ea_nil)))) ea_nil)) ea_nil))))))
theorem ok__law_closed (F : Fx P w K mg cs tb) : Cal P w K mg base tb 1 "_law_closed" ["_law_links", "_law_lot_here"] d__law_closed := by
  obtain ⟨f, fd, D, hm⟩ := F.d__law_closed
  exact ⟨f, fd, fn__law_closed F D, hm, D.kp, D.bindsN fun _ _ _ _ _ _ us hl => match us, hl with | [_, _], _ => rfl⟩

theorem sc_is_whole : FnScope ["value"] ["value"] (defScope s_is_whole) := ⟨rfl, rfl, rfl, by decide +kernel, rfl, by decide +kernel, by decide +kernel⟩
theorem fn_is_whole (F : Fx P w K mg cs tb) {f : Addr} {fd : FuncData} (D : FunD K "is_whole" "is_whole" (defArgs s_is_whole) (defBody s_is_whole) (defScope s_is_whole) [] [] f fd) : FnD P w K mg base tb 1 f fd ["value"] Lib.is_whole := by
  have nd := sc_is_whole.nd
  refine fn_ok (N := ["value"]) (ps := ["value"]) D sc_is_whole (fun T hT cdv A outer s H E hr => ?_)
  have hu : (cxOf (CX P w) P w K mg base ["value"] "is_whole" (defScope s_is_whole) f cdv A outer s H E).A.units + 65 < cLine := hu_room hr
  have tk := takes_of (X := (cxOf (CX P w) P w K mg base ["value"] "is_whole" (defScope s_is_whole) f cdv A outer s H E)) rfl rfl rfl rfl
  have hx : Lets (cxOf (CX P w) P w K mg base ["value"] "is_whole" (defScope s_is_whole) f cdv A outer s H E) E := lets_def tk
  have ho : PassesOwn (model P w) (cxOf (CX P w) P w K mg base ["value"] "is_whole" (defScope s_is_whole) f cdv A outer s H E).A (cxOf (CX P w) P w K mg base ["value"] "is_whole" (defScope s_is_whole) f cdv A outer s H E).env (cxOf (CX P w) P w K mg base ["value"] "is_whole" (defScope s_is_whole) f cdv A outer s H E).xe := passes_of rfl
  exact (ess_one (es_ret (ev_and (ev_isi rfl F.n_isinstance (ea_cons (ev_name 0) (ea_cons (ev_bty rfl F.n_int (by decide +kernel)) ea_nil))) (ev_one (ev_not (ev_isi rfl F.n_isinstance (ea_cons (ev_name 0) (ea_cons (ev_bty rfl F.n_bool (by decide +kernel)) ea_nil))))))))
theorem ok_is_whole (F : Fx P w K mg cs tb) : Cal P w K mg base tb 1 "is_whole" ["value"] Lib.is_whole := by
  obtain ⟨f, fd, D, hm⟩ := F.d_is_whole
  exact ⟨f, fd, fn_is_whole F D, hm, D.kp, D.bindsN fun _ _ _ _ _ _ us hl => match us, hl with | [_], _ => rfl⟩

theorem sc_made_rooms : FnScope ["thing", "x", "many"] ["thing"] (defScope s_made_rooms) := ⟨rfl, rfl, rfl, by decide +kernel, rfl, by decide +kernel, by decide +kernel⟩
theorem fn_made_rooms (F : Fx P w K mg cs tb) {f : Addr} {fd : FuncData} (D : FunD K "made_rooms" "made_rooms" (defArgs s_made_rooms) (defBody s_made_rooms) (defScope s_made_rooms) [] [] f fd) : FnD P w K mg base tb 3 f fd ["thing"] Lib.made_rooms := by
  have nd := sc_made_rooms.nd
  refine fn_ok (N := ["thing", "x", "many"]) (ps := ["thing"]) D sc_made_rooms (fun T hT cdv A outer s H E hr => ?_)
  have hu : (cxOf (CX P w) P w K mg base ["thing", "x", "many"] "made_rooms" (defScope s_made_rooms) f cdv A outer s H E).A.units + 65 < cLine := hu_room hr
  have tk := takes_of (X := (cxOf (CX P w) P w K mg base ["thing", "x", "many"] "made_rooms" (defScope s_made_rooms) f cdv A outer s H E)) rfl rfl rfl rfl
  have hx : Lets (cxOf (CX P w) P w K mg base ["thing", "x", "many"] "made_rooms" (defScope s_made_rooms) f cdv A outer s H E) E := lets_def tk
  have ho : PassesOwn (model P w) (cxOf (CX P w) P w K mg base ["thing", "x", "many"] "made_rooms" (defScope s_made_rooms) f cdv A outer s H E).A (cxOf (CX P w) P w K mg base ["thing", "x", "many"] "made_rooms" (defScope s_made_rooms) f cdv A outer s H E).env (cxOf (CX P w) P w K mg base ["thing", "x", "many"] "made_rooms" (defScope s_made_rooms) f cdv A outer s H E).xe := passes_of rfl
  exact (ess_cons (es_if (eb_not (eb_truth (ev_isi rfl F.n_isinstance (ea_cons (ev_name 0) (ea_cons (ev_bty rfl F.n_tuple (by decide +kernel)) ea_nil))))) (ess_one (es_raise (F.x_BadRooms _) (hr.mono (by decide)) rfl tk rfl (ev_neg ev_int))) ess_nil)
  (ess_cons (es_if (eb_gt (ev_len rfl F.n_len (ea_cons (ev_name 0) ea_nil)) (ev_gint rfl F.c_MOST_THINGS)) (ess_one (es_raise (F.x_TooMany _) (hr.mono (by decide)) rfl tk rfl (ev_len rfl F.n_len (ea_cons (ev_name 0) ea_nil)))) ess_nil)
  (ess_cons (es_for [1, 2] ho rfl (ei_enum rfl F.n_enumerate (ev_name 0)) (eg_tup rfl (egs_cons (eg_name 1 nd) (egs_cons (eg_name 2 nd) egs_nil))) (ess_one (es_if (eb_w (ew_or (eb_not (eb_truth (ev_cal (ok_is_whole F) (hr.mono (by decide)) rfl hT hx (ea_cons (ev_name 2) ea_nil)))) (ew_or1 (eb_not (eb_chainI op_le op_le ev_int (ev_name 2) (ev_gint rfl F.c_MOST_ROOMS)))))) (ess_one (es_raise (F.x_BadRooms _) (hr.mono (by decide)) rfl tk rfl (ev_name 1))) ess_nil)))
  (ess_one (es_ret (ev_name 0))))))
theorem ok_made_rooms (F : Fx P w K mg cs tb) : Cal P w K mg base tb 3 "made_rooms" ["thing"] Lib.made_rooms := by
  obtain ⟨f, fd, D, hm⟩ := F.d_made_rooms
  exact ⟨f, fd, fn_made_rooms F D, hm, D.kp, D.bindsN fun _ _ _ _ _ _ us hl => match us, hl with | [_], _ => rfl⟩

theorem sc_all_standings : FnScope ["rooms", "x", "y", "inner", "room"] ["rooms", "x", "y"] (defScope s_all_standings) := ⟨rfl, rfl, rfl, by decide +kernel, rfl, by decide +kernel, by decide +kernel⟩
theorem fn_all_standings (F : Fx P w K mg cs tb) {f : Addr} {fd : FuncData} (D : FunD K "all_standings" "all_standings" (defArgs s_all_standings) (defBody s_all_standings) (defScope s_all_standings) [] [] f fd) : FnD P w K mg base tb 1 f fd ["rooms", "x", "y"] Lib.all_standings := by
  have nd := sc_all_standings.nd
  refine fn_ok (N := ["rooms", "x", "y", "inner", "room"]) (ps := ["rooms", "x", "y"]) D sc_all_standings (fun T hT cdv A outer s H E hr => ?_)
  have hu : (cxOf (CX P w) P w K mg base ["rooms", "x", "y", "inner", "room"] "all_standings" (defScope s_all_standings) f cdv A outer s H E).A.units + 65 < cLine := hu_room hr
  have tk := takes_of (X := (cxOf (CX P w) P w K mg base ["rooms", "x", "y", "inner", "room"] "all_standings" (defScope s_all_standings) f cdv A outer s H E)) rfl rfl rfl rfl
  have hx : Lets (cxOf (CX P w) P w K mg base ["rooms", "x", "y", "inner", "room"] "all_standings" (defScope s_all_standings) f cdv A outer s H E) E := lets_def tk
  have ho : PassesOwn (model P w) (cxOf (CX P w) P w K mg base ["rooms", "x", "y", "inner", "room"] "all_standings" (defScope s_all_standings) f cdv A outer s H E).A (cxOf (CX P w) P w K mg base ["rooms", "x", "y", "inner", "room"] "all_standings" (defScope s_all_standings) f cdv A outer s H E).env (cxOf (CX P w) P w K mg base ["rooms", "x", "y", "inner", "room"] "all_standings" (defScope s_all_standings) f cdv A outer s H E).xe := passes_of rfl
  exact (ess_cons (by first | exact (es_setLc (own := [(("room" : Str), 4)]) mLst_end rfl nd rfl rfl (sw_true rfl rfl rfl (by decide +kernel)) (ei_rg1 rfl F.n_range (ev_ix hu (ev_name 0) (ev_name 2))) (blkOk_by (by first | decide +kernel | rfl)) (fun D s H C cl fp => (egw_name 4 nd)) (fun D s H C cl fp => ets_nil) (fun D s H C cl fp => (ev_tup (ea_cons ev_str (ea_cons (ev_name 4) ea_nil))))) | exact (es_set 3 nd (ev_lc (own := [(("room" : Str), 4)]) mLst_end rfl nd (ei_rg1 rfl F.n_range (ev_ix hu (ev_name 0) (ev_name 2))) (blkOk_by (by first | decide +kernel | rfl)) (fun D s H C cl fp => (egw_name 4 nd)) (fun D s H C cl fp => ets_nil) (fun D s H C cl fp => (ev_tup (ea_cons ev_str (ea_cons (ev_name 4) ea_nil)))))))
  (ess_one (es_ret (ev_add (ev_add (ev_tup (ea_cons (ev_gtupX rfl F.t_APART) ea_nil)) (ev_tupC rfl F.n_tuple (ea_cons (ev_name 3) ea_nil))) (ev_tupC rfl F.n_tuple (ea_cons (ev_lc (own := [(("room" : Str), 4)]) mLst_end rfl nd (ei_rg1 rfl F.n_range (ev_ix hu (ev_name 0) (ev_name 1))) (blkOk_by (by first | decide +kernel | rfl)) (fun D s H C cl fp => (egw_name 4 nd)) (fun D s H C cl fp => ets_nil) (fun D s H C cl fp => (ev_tup (ea_cons ev_str (ea_cons (ev_name 4) ea_nil))))) ea_nil))))))
theorem ok_all_standings (F : Fx P w K mg cs tb) : Cal P w K mg base tb 1 "all_standings" ["rooms", "x", "y"] Lib.all_standings := by
  obtain ⟨f, fd, D, hm⟩ := F.d_all_standings
  exact ⟨f, fd, fn_all_standings F D, hm, D.kp, D.bindsN fun _ _ _ _ _ _ us hl => match us, hl with | [_, _, _], _ => rfl⟩

theorem sc_is_standing : FnScope ["rooms", "x", "y", "thing"] ["rooms", "x", "y", "thing"] (defScope s_is_standing) := ⟨rfl, rfl, rfl, by decide +kernel, rfl, by decide +kernel, by decide +kernel⟩
theorem fn_is_standing (F : Fx P w K mg cs tb) {f : Addr} {fd : FuncData} (D : FunD K "is_standing" "is_standing" (defArgs s_is_standing) (defBody s_is_standing) (defScope s_is_standing) [] [] f fd) : FnD P w K mg base tb 2 f fd ["rooms", "x", "y", "thing"] Lib.is_standing := by
  have nd := sc_is_standing.nd
  refine fn_ok (N := ["rooms", "x", "y", "thing"]) (ps := ["rooms", "x", "y", "thing"]) D sc_is_standing (fun T hT cdv A outer s H E hr => ?_)
  have hu : (cxOf (CX P w) P w K mg base ["rooms", "x", "y", "thing"] "is_standing" (defScope s_is_standing) f cdv A outer s H E).A.units + 65 < cLine := hu_room hr
  have tk := takes_of (X := (cxOf (CX P w) P w K mg base ["rooms", "x", "y", "thing"] "is_standing" (defScope s_is_standing) f cdv A outer s H E)) rfl rfl rfl rfl
  have hx : Lets (cxOf (CX P w) P w K mg base ["rooms", "x", "y", "thing"] "is_standing" (defScope s_is_standing) f cdv A outer s H E) E := lets_def tk
  have ho : PassesOwn (model P w) (cxOf (CX P w) P w K mg base ["rooms", "x", "y", "thing"] "is_standing" (defScope s_is_standing) f cdv A outer s H E).A (cxOf (CX P w) P w K mg base ["rooms", "x", "y", "thing"] "is_standing" (defScope s_is_standing) f cdv A outer s H E).env (cxOf (CX P w) P w K mg base ["rooms", "x", "y", "thing"] "is_standing" (defScope s_is_standing) f cdv A outer s H E).xe := passes_of rfl
  exact (ess_cons (es_if (eb_w (ew_or (eb_not (eb_truth (ev_isi rfl F.n_isinstance (ea_cons (ev_name 3) (ea_cons (ev_bty rfl F.n_tuple (by decide +kernel)) ea_nil))))) (ew_or (eb_ne hu (ev_len rfl F.n_len (ea_cons (ev_name 3) ea_nil)) ev_int) (ew_or (eb_not (eb_truth (ev_isi rfl F.n_isinstance (ea_cons (ev_ix hu (ev_name 3) ev_int) (ea_cons (ev_bty rfl F.n_str (by decide +kernel)) ea_nil))))) (ew_or1 (eb_not (eb_truth (ev_cal (ok_is_whole F) (hr.mono (by decide)) rfl hT hx (ea_cons (ev_ix hu (ev_name 3) ev_int) ea_nil))))))))) (ess_one (es_ret ev_bl)) ess_nil)
  (ess_one (es_ret (ev_in hu (ev_name 3) (ev_cal (ok_all_standings F) (hr.mono (by decide)) rfl hT hx (ea_cons (ev_name 0) (ea_cons (ev_name 1) (ea_cons (ev_name 2) ea_nil))))))))
theorem ok_is_standing (F : Fx P w K mg cs tb) : Cal P w K mg base tb 2 "is_standing" ["rooms", "x", "y", "thing"] Lib.is_standing := by
  obtain ⟨f, fd, D, hm⟩ := F.d_is_standing
  exact ⟨f, fd, fn_is_standing F D, hm, D.kp, D.bindsN fun _ _ _ _ _ _ us hl => match us, hl with | [_, _, _, _], _ => rfl⟩

theorem sc_is_lets : FnScope ["rooms", "x", "y", "lets", "order", "before", "standing", "place"] ["rooms", "x", "y", "lets"] (defScope s_is_lets) := ⟨rfl, rfl, rfl, by decide +kernel, rfl, by decide +kernel, by decide +kernel⟩
theorem fn_is_lets (F : Fx P w K mg cs tb) {f : Addr} {fd : FuncData} (D : FunD K "is_lets" "is_lets" (defArgs s_is_lets) (defBody s_is_lets) (defScope s_is_lets) [] [] f fd) : FnD P w K mg base tb 3 f fd ["rooms", "x", "y", "lets"] Lib.is_lets := by
  have nd := sc_is_lets.nd
  refine fn_ok (N := ["rooms", "x", "y", "lets", "order", "before", "standing", "place"]) (ps := ["rooms", "x", "y", "lets"]) D sc_is_lets (fun T hT cdv A outer s H E hr => ?_)
  have hu : (cxOf (CX P w) P w K mg base ["rooms", "x", "y", "lets", "order", "before", "standing", "place"] "is_lets" (defScope s_is_lets) f cdv A outer s H E).A.units + 65 < cLine := hu_room hr
  have tk := takes_of (X := (cxOf (CX P w) P w K mg base ["rooms", "x", "y", "lets", "order", "before", "standing", "place"] "is_lets" (defScope s_is_lets) f cdv A outer s H E)) rfl rfl rfl rfl
  have hx : Lets (cxOf (CX P w) P w K mg base ["rooms", "x", "y", "lets", "order", "before", "standing", "place"] "is_lets" (defScope s_is_lets) f cdv A outer s H E) E := lets_def tk
  have ho : PassesOwn (model P w) (cxOf (CX P w) P w K mg base ["rooms", "x", "y", "lets", "order", "before", "standing", "place"] "is_lets" (defScope s_is_lets) f cdv A outer s H E).A (cxOf (CX P w) P w K mg base ["rooms", "x", "y", "lets", "order", "before", "standing", "place"] "is_lets" (defScope s_is_lets) f cdv A outer s H E).env (cxOf (CX P w) P w K mg base ["rooms", "x", "y", "lets", "order", "before", "standing", "place"] "is_lets" (defScope s_is_lets) f cdv A outer s H E).xe := passes_of rfl
  exact (ess_cons (es_if (eb_not (eb_truth (ev_isi rfl F.n_isinstance (ea_cons (ev_name 3) (ea_cons (ev_bty rfl F.n_tuple (by decide +kernel)) ea_nil))))) (ess_one (es_ret ev_bl)) ess_nil)
  (ess_cons (es_set 4 nd (ev_cal (ok_all_standings F) (hr.mono (by decide)) rfl hT hx (ea_cons (ev_name 0) (ea_cons (ev_name 1) (ea_cons (ev_name 2) ea_nil)))))
  (ess_cons (es_set 5 nd (ev_neg ev_int))
  (ess_cons (es_for [6, 7] ho rfl (ei_seq (ev_name 3)) (eg_name 6 nd) (ess_cons (es_if (eb_not (eb_truth (ev_cal (ok_is_standing F) (hr.mono (by decide)) rfl hT hx (ea_cons (ev_name 0) (ea_cons (ev_name 1) (ea_cons (ev_name 2) (ea_cons (ev_name 6) ea_nil))))))) (ess_one (es_ret ev_bl)) ess_nil)
  (ess_cons (es_set 7 nd (ev_indexT hu (ev_name 4) (ev_name 6)))
  (ess_cons (es_if (eb_le (ev_name 7) (ev_name 5)) (ess_one (es_ret ev_bl)) ess_nil)
  (ess_one (es_set 5 nd (ev_name 7)))))))
  (ess_one (es_ret ev_bl))))))
theorem ok_is_lets (F : Fx P w K mg cs tb) : Cal P w K mg base tb 3 "is_lets" ["rooms", "x", "y", "lets"] Lib.is_lets := by
  obtain ⟨f, fd, D, hm⟩ := F.d_is_lets
  exact ⟨f, fd, fn_is_lets F D, hm, D.kp, D.bindsN fun _ _ _ _ _ _ us hl => match us, hl with | [_, _, _, _], _ => rfl⟩

theorem sc_is_thing : FnScope ["rooms", "x"] ["rooms", "x"] (defScope s_is_thing) := ⟨rfl, rfl, rfl, by decide +kernel, rfl, by decide +kernel, by decide +kernel⟩
theorem fn_is_thing (F : Fx P w K mg cs tb) {f : Addr} {fd : FuncData} (D : FunD K "is_thing" "is_thing" (defArgs s_is_thing) (defBody s_is_thing) (defScope s_is_thing) [] [] f fd) : FnD P w K mg base tb 2 f fd ["rooms", "x"] Lib.is_thing := by
  have nd := sc_is_thing.nd
  refine fn_ok (N := ["rooms", "x"]) (ps := ["rooms", "x"]) D sc_is_thing (fun T hT cdv A outer s H E hr => ?_)
  have hu : (cxOf (CX P w) P w K mg base ["rooms", "x"] "is_thing" (defScope s_is_thing) f cdv A outer s H E).A.units + 65 < cLine := hu_room hr
  have tk := takes_of (X := (cxOf (CX P w) P w K mg base ["rooms", "x"] "is_thing" (defScope s_is_thing) f cdv A outer s H E)) rfl rfl rfl rfl
  have hx : Lets (cxOf (CX P w) P w K mg base ["rooms", "x"] "is_thing" (defScope s_is_thing) f cdv A outer s H E) E := lets_def tk
  have ho : PassesOwn (model P w) (cxOf (CX P w) P w K mg base ["rooms", "x"] "is_thing" (defScope s_is_thing) f cdv A outer s H E).A (cxOf (CX P w) P w K mg base ["rooms", "x"] "is_thing" (defScope s_is_thing) f cdv A outer s H E).env (cxOf (CX P w) P w K mg base ["rooms", "x"] "is_thing" (defScope s_is_thing) f cdv A outer s H E).xe := passes_of rfl
  exact (ess_one (es_ret (ev_and (ev_cal (ok_is_whole F) (hr.mono (by decide)) rfl hT hx (ea_cons (ev_name 1) ea_nil)) (ev_one (ev_chainI op_le op_lt ev_int (ev_name 1) (ev_len rfl F.n_len (ea_cons (ev_name 0) ea_nil)))))))
theorem ok_is_thing (F : Fx P w K mg cs tb) : Cal P w K mg base tb 2 "is_thing" ["rooms", "x"] Lib.is_thing := by
  obtain ⟨f, fd, D, hm⟩ := F.d_is_thing
  exact ⟨f, fd, fn_is_thing F D, hm, D.kp, D.bindsN fun _ _ _ _ _ _ us hl => match us, hl with | [_, _], _ => rfl⟩

theorem sc_says_right : FnScope ["rooms", "saying", "x", "y", "lets"] ["rooms", "saying"] (defScope s_says_right) := ⟨rfl, rfl, rfl, by decide +kernel, rfl, by decide +kernel, by decide +kernel⟩
theorem fn_says_right (F : Fx P w K mg cs tb) {f : Addr} {fd : FuncData} (D : FunD K "says_right" "says_right" (defArgs s_says_right) (defBody s_says_right) (defScope s_says_right) [] [] f fd) : FnD P w K mg base tb 4 f fd ["rooms", "saying"] Lib.says_right := by
  have nd := sc_says_right.nd
  refine fn_ok (N := ["rooms", "saying", "x", "y", "lets"]) (ps := ["rooms", "saying"]) D sc_says_right (fun T hT cdv A outer s H E hr => ?_)
  have hu : (cxOf (CX P w) P w K mg base ["rooms", "saying", "x", "y", "lets"] "says_right" (defScope s_says_right) f cdv A outer s H E).A.units + 65 < cLine := hu_room hr
  have tk := takes_of (X := (cxOf (CX P w) P w K mg base ["rooms", "saying", "x", "y", "lets"] "says_right" (defScope s_says_right) f cdv A outer s H E)) rfl rfl rfl rfl
  have hx : Lets (cxOf (CX P w) P w K mg base ["rooms", "saying", "x", "y", "lets"] "says_right" (defScope s_says_right) f cdv A outer s H E) E := lets_def tk
  have ho : PassesOwn (model P w) (cxOf (CX P w) P w K mg base ["rooms", "saying", "x", "y", "lets"] "says_right" (defScope s_says_right) f cdv A outer s H E).A (cxOf (CX P w) P w K mg base ["rooms", "saying", "x", "y", "lets"] "says_right" (defScope s_says_right) f cdv A outer s H E).env (cxOf (CX P w) P w K mg base ["rooms", "saying", "x", "y", "lets"] "says_right" (defScope s_says_right) f cdv A outer s H E).xe := passes_of rfl
  exact (ess_cons (es_if (eb_w (ew_or (eb_not (eb_truth (ev_isi rfl F.n_isinstance (ea_cons (ev_name 1) (ea_cons (ev_bty rfl F.n_tuple (by decide +kernel)) ea_nil))))) (ew_or1 (eb_ne hu (ev_len rfl F.n_len (ea_cons (ev_name 1) ea_nil)) ev_int)))) (ess_one (es_ret ev_bl)) ess_nil)
  (ess_cons (es_asg (ev_name 1) (eg_tup rfl (egs_cons (eg_name 2 nd) (egs_cons (eg_name 3 nd) (egs_cons (eg_name 4 nd) egs_nil)))))
  (ess_cons (es_if (eb_w (ew_or (eb_not (eb_truth (ev_cal (ok_is_thing F) (hr.mono (by decide)) rfl hT hx (ea_cons (ev_name 0) (ea_cons (ev_name 2) ea_nil))))) (ew_or (eb_not (eb_truth (ev_cal (ok_is_thing F) (hr.mono (by decide)) rfl hT hx (ea_cons (ev_name 0) (ea_cons (ev_name 3) ea_nil))))) (ew_or1 (eb_eq hu (ev_name 2) (ev_name 3)))))) (ess_one (es_ret ev_bl)) ess_nil)
  (ess_one (es_ret (ev_cal (ok_is_lets F) (hr.mono (by decide)) rfl hT hx (ea_cons (ev_name 0) (ea_cons (ev_name 2) (ea_cons (ev_name 3) (ea_cons (ev_name 4) ea_nil))))))))))
theorem ok_says_right (F : Fx P w K mg cs tb) : Cal P w K mg base tb 4 "says_right" ["rooms", "saying"] Lib.says_right := by
  obtain ⟨f, fd, D, hm⟩ := F.d_says_right
  exact ⟨f, fd, fn_says_right F D, hm, D.kp, D.bindsN fun _ _ _ _ _ _ us hl => match us, hl with | [_, _], _ => rfl⟩

theorem sc_first_wrong : FnScope ["rooms", "sayings", "index", "saying"] ["rooms", "sayings"] (defScope s_first_wrong) := ⟨rfl, rfl, rfl, by decide +kernel, rfl, by decide +kernel, by decide +kernel⟩
theorem fn_first_wrong (F : Fx P w K mg cs tb) {f : Addr} {fd : FuncData} (D : FunD K "first_wrong" "first_wrong" (defArgs s_first_wrong) (defBody s_first_wrong) (defScope s_first_wrong) [] [] f fd) : FnD P w K mg base tb 5 f fd ["rooms", "sayings"] Lib.first_wrong := by
  have nd := sc_first_wrong.nd
  refine fn_ok (N := ["rooms", "sayings", "index", "saying"]) (ps := ["rooms", "sayings"]) D sc_first_wrong (fun T hT cdv A outer s H E hr => ?_)
  have hu : (cxOf (CX P w) P w K mg base ["rooms", "sayings", "index", "saying"] "first_wrong" (defScope s_first_wrong) f cdv A outer s H E).A.units + 65 < cLine := hu_room hr
  have tk := takes_of (X := (cxOf (CX P w) P w K mg base ["rooms", "sayings", "index", "saying"] "first_wrong" (defScope s_first_wrong) f cdv A outer s H E)) rfl rfl rfl rfl
  have hx : Lets (cxOf (CX P w) P w K mg base ["rooms", "sayings", "index", "saying"] "first_wrong" (defScope s_first_wrong) f cdv A outer s H E) E := lets_def tk
  have ho : PassesOwn (model P w) (cxOf (CX P w) P w K mg base ["rooms", "sayings", "index", "saying"] "first_wrong" (defScope s_first_wrong) f cdv A outer s H E).A (cxOf (CX P w) P w K mg base ["rooms", "sayings", "index", "saying"] "first_wrong" (defScope s_first_wrong) f cdv A outer s H E).env (cxOf (CX P w) P w K mg base ["rooms", "sayings", "index", "saying"] "first_wrong" (defScope s_first_wrong) f cdv A outer s H E).xe := passes_of rfl
  exact (ess_cons (es_for [2, 3] ho rfl (ei_enum rfl F.n_enumerate (ev_name 1)) (eg_tup rfl (egs_cons (eg_name 2 nd) (egs_cons (eg_name 3 nd) egs_nil))) (ess_one (es_if (eb_not (eb_truth (ev_cal (ok_says_right F) (hr.mono (by decide)) rfl hT hx (ea_cons (ev_name 0) (ea_cons (ev_name 3) ea_nil))))) (ess_one (es_ret (ev_name 2))) ess_nil)))
  (ess_one (es_ret ev_non)))
theorem ok_first_wrong (F : Fx P w K mg cs tb) : Cal P w K mg base tb 5 "first_wrong" ["rooms", "sayings"] Lib.first_wrong := by
  obtain ⟨f, fd, D, hm⟩ := F.d_first_wrong
  exact ⟨f, fd, fn_first_wrong F D, hm, D.kp, D.bindsN fun _ _ _ _ _ _ us hl => match us, hl with | [_, _], _ => rfl⟩

theorem sc_is_pair : FnScope ["thing"] ["thing"] (defScope s_is_pair) := ⟨rfl, rfl, rfl, by decide +kernel, rfl, by decide +kernel, by decide +kernel⟩
theorem fn_is_pair (F : Fx P w K mg cs tb) {f : Addr} {fd : FuncData} (D : FunD K "is_pair" "is_pair" (defArgs s_is_pair) (defBody s_is_pair) (defScope s_is_pair) [] [] f fd) : FnD P w K mg base tb 1 f fd ["thing"] Lib.is_pair := by
  have nd := sc_is_pair.nd
  refine fn_ok (N := ["thing"]) (ps := ["thing"]) D sc_is_pair (fun T hT cdv A outer s H E hr => ?_)
  have hu : (cxOf (CX P w) P w K mg base ["thing"] "is_pair" (defScope s_is_pair) f cdv A outer s H E).A.units + 65 < cLine := hu_room hr
  have tk := takes_of (X := (cxOf (CX P w) P w K mg base ["thing"] "is_pair" (defScope s_is_pair) f cdv A outer s H E)) rfl rfl rfl rfl
  have hx : Lets (cxOf (CX P w) P w K mg base ["thing"] "is_pair" (defScope s_is_pair) f cdv A outer s H E) E := lets_def tk
  have ho : PassesOwn (model P w) (cxOf (CX P w) P w K mg base ["thing"] "is_pair" (defScope s_is_pair) f cdv A outer s H E).A (cxOf (CX P w) P w K mg base ["thing"] "is_pair" (defScope s_is_pair) f cdv A outer s H E).env (cxOf (CX P w) P w K mg base ["thing"] "is_pair" (defScope s_is_pair) f cdv A outer s H E).xe := passes_of rfl
  exact (ess_one (es_ret (ev_and (ev_isi rfl F.n_isinstance (ea_cons (ev_name 0) (ea_cons (ev_bty rfl F.n_tuple (by decide +kernel)) ea_nil))) (ev_one (ev_eq hu (ev_len rfl F.n_len (ea_cons (ev_name 0) ea_nil)) ev_int)))))
theorem ok_is_pair (F : Fx P w K mg cs tb) : Cal P w K mg base tb 1 "is_pair" ["thing"] Lib.is_pair := by
  obtain ⟨f, fd, D, hm⟩ := F.d_is_pair
  exact ⟨f, fd, fn_is_pair F D, hm, D.kp, D.bindsN fun _ _ _ _ _ _ us hl => match us, hl with | [_], _ => rfl⟩

theorem sc_made_book : FnScope ["thing", "rooms", "sayings", "index"] ["thing"] (defScope s_made_book) := ⟨rfl, rfl, rfl, by decide +kernel, rfl, by decide +kernel, by decide +kernel⟩
theorem fn_made_book (F : Fx P w K mg cs tb) {f : Addr} {fd : FuncData} (D : FunD K "made_book" "made_book" (defArgs s_made_book) (defBody s_made_book) (defScope s_made_book) [] [] f fd) : FnD P w K mg base tb 6 f fd ["thing"] Lib.made_book := by
  have nd := sc_made_book.nd
  refine fn_ok (N := ["thing", "rooms", "sayings", "index"]) (ps := ["thing"]) D sc_made_book (fun T hT cdv A outer s H E hr => ?_)
  have hu : (cxOf (CX P w) P w K mg base ["thing", "rooms", "sayings", "index"] "made_book" (defScope s_made_book) f cdv A outer s H E).A.units + 65 < cLine := hu_room hr
  have tk := takes_of (X := (cxOf (CX P w) P w K mg base ["thing", "rooms", "sayings", "index"] "made_book" (defScope s_made_book) f cdv A outer s H E)) rfl rfl rfl rfl
  have hx : Lets (cxOf (CX P w) P w K mg base ["thing", "rooms", "sayings", "index"] "made_book" (defScope s_made_book) f cdv A outer s H E) E := lets_def tk
  have ho : PassesOwn (model P w) (cxOf (CX P w) P w K mg base ["thing", "rooms", "sayings", "index"] "made_book" (defScope s_made_book) f cdv A outer s H E).A (cxOf (CX P w) P w K mg base ["thing", "rooms", "sayings", "index"] "made_book" (defScope s_made_book) f cdv A outer s H E).env (cxOf (CX P w) P w K mg base ["thing", "rooms", "sayings", "index"] "made_book" (defScope s_made_book) f cdv A outer s H E).xe := passes_of rfl
  exact (ess_cons (es_if (eb_not (eb_truth (ev_cal (ok_is_pair F) (hr.mono (by decide)) rfl hT hx (ea_cons (ev_name 0) ea_nil)))) (ess_one (es_raise (F.x_BadBook _) (hr.mono (by decide)) rfl tk rfl (ev_neg ev_int))) ess_nil)
  (ess_cons (es_set 1 nd (ev_cal (ok_made_rooms F) (hr.mono (by decide)) rfl hT hx (ea_cons (ev_ix hu (ev_name 0) ev_int) ea_nil)))
  (ess_cons (es_set 2 nd (ev_ix hu (ev_name 0) ev_int))
  (ess_cons (es_if (eb_not (eb_truth (ev_isi rfl F.n_isinstance (ea_cons (ev_name 2) (ea_cons (ev_bty rfl F.n_tuple (by decide +kernel)) ea_nil))))) (ess_one (es_raise (F.x_BadBook _) (hr.mono (by decide)) rfl tk rfl (ev_neg ev_int))) ess_nil)
  (ess_cons (es_if (eb_gt (ev_len rfl F.n_len (ea_cons (ev_name 2) ea_nil)) (ev_gint rfl F.c_MOST_SAYINGS)) (ess_one (es_raise (F.x_TooMany _) (hr.mono (by decide)) rfl tk rfl (ev_len rfl F.n_len (ea_cons (ev_name 2) ea_nil)))) ess_nil)
  (ess_cons (es_set 3 nd (ev_cal (ok_first_wrong F) (hr.mono (by decide)) rfl hT hx (ea_cons (ev_name 1) (ea_cons (ev_name 2) ea_nil))))
  (ess_cons (es_if (eb_isNot (ev_name 3) ev_non) (ess_one (es_raise (F.x_BadSaying _) (hr.mono (by decide)) rfl tk rfl (ev_name 3))) ess_nil)
  (ess_one (es_ret (ev_tup (ea_cons (ev_name 1) (ea_cons (ev_name 2) ea_nil))))))))))))
theorem ok_made_book (F : Fx P w K mg cs tb) : Cal P w K mg base tb 6 "made_book" ["thing"] Lib.made_book := by
  obtain ⟨f, fd, D, hm⟩ := F.d_made_book
  exact ⟨f, fd, fn_made_book F D, hm, D.kp, D.bindsN fun _ _ _ _ _ _ us hl => match us, hl with | [_], _ => rfl⟩

theorem sc_is_lot : FnScope ["rooms", "lot", "before", "x"] ["rooms", "lot"] (defScope s_is_lot) := ⟨rfl, rfl, rfl, by decide +kernel, rfl, by decide +kernel, by decide +kernel⟩
theorem fn_is_lot (F : Fx P w K mg cs tb) {f : Addr} {fd : FuncData} (D : FunD K "is_lot" "is_lot" (defArgs s_is_lot) (defBody s_is_lot) (defScope s_is_lot) [] [] f fd) : FnD P w K mg base tb 3 f fd ["rooms", "lot"] Lib.is_lot := by
  have nd := sc_is_lot.nd
  refine fn_ok (N := ["rooms", "lot", "before", "x"]) (ps := ["rooms", "lot"]) D sc_is_lot (fun T hT cdv A outer s H E hr => ?_)
  have hu : (cxOf (CX P w) P w K mg base ["rooms", "lot", "before", "x"] "is_lot" (defScope s_is_lot) f cdv A outer s H E).A.units + 65 < cLine := hu_room hr
  have tk := takes_of (X := (cxOf (CX P w) P w K mg base ["rooms", "lot", "before", "x"] "is_lot" (defScope s_is_lot) f cdv A outer s H E)) rfl rfl rfl rfl
  have hx : Lets (cxOf (CX P w) P w K mg base ["rooms", "lot", "before", "x"] "is_lot" (defScope s_is_lot) f cdv A outer s H E) E := lets_def tk
  have ho : PassesOwn (model P w) (cxOf (CX P w) P w K mg base ["rooms", "lot", "before", "x"] "is_lot" (defScope s_is_lot) f cdv A outer s H E).A (cxOf (CX P w) P w K mg base ["rooms", "lot", "before", "x"] "is_lot" (defScope s_is_lot) f cdv A outer s H E).env (cxOf (CX P w) P w K mg base ["rooms", "lot", "before", "x"] "is_lot" (defScope s_is_lot) f cdv A outer s H E).xe := passes_of rfl
  exact (ess_cons (es_if (eb_not (eb_truth (ev_isi rfl F.n_isinstance (ea_cons (ev_name 1) (ea_cons (ev_bty rfl F.n_tuple (by decide +kernel)) ea_nil))))) (ess_one (es_ret ev_bl)) ess_nil)
  (ess_cons (es_set 2 nd (ev_neg ev_int))
  (ess_cons (es_for [3] ho rfl (ei_seq (ev_name 1)) (eg_name 3 nd) (ess_cons (es_if (eb_w (ew_or (eb_not (eb_truth (ev_cal (ok_is_thing F) (hr.mono (by decide)) rfl hT hx (ea_cons (ev_name 0) (ea_cons (ev_name 3) ea_nil))))) (ew_or1 (eb_le (ev_name 3) (ev_name 2))))) (ess_one (es_ret ev_bl)) ess_nil)
  (ess_one (es_set 2 nd (ev_name 3)))))
  (ess_one (es_ret ev_bl)))))
theorem ok_is_lot (F : Fx P w K mg cs tb) : Cal P w K mg base tb 3 "is_lot" ["rooms", "lot"] Lib.is_lot := by
  obtain ⟨f, fd, D, hm⟩ := F.d_is_lot
  exact ⟨f, fd, fn_is_lot F D, hm, D.kp, D.bindsN fun _ _ _ _ _ _ us hl => match us, hl with | [_, _], _ => rfl⟩

theorem sc_want_lot : FnScope ["rooms", "lot"] ["rooms", "lot"] (defScope s_want_lot) := ⟨rfl, rfl, rfl, by decide +kernel, rfl, by decide +kernel, by decide +kernel⟩
theorem fn_want_lot (F : Fx P w K mg cs tb) {f : Addr} {fd : FuncData} (D : FunD K "want_lot" "want_lot" (defArgs s_want_lot) (defBody s_want_lot) (defScope s_want_lot) [] [] f fd) : FnD P w K mg base tb 4 f fd ["rooms", "lot"] Lib.want_lot := by
  have nd := sc_want_lot.nd
  refine fn_ok (N := ["rooms", "lot"]) (ps := ["rooms", "lot"]) D sc_want_lot (fun T hT cdv A outer s H E hr => ?_)
  have hu : (cxOf (CX P w) P w K mg base ["rooms", "lot"] "want_lot" (defScope s_want_lot) f cdv A outer s H E).A.units + 65 < cLine := hu_room hr
  have tk := takes_of (X := (cxOf (CX P w) P w K mg base ["rooms", "lot"] "want_lot" (defScope s_want_lot) f cdv A outer s H E)) rfl rfl rfl rfl
  have hx : Lets (cxOf (CX P w) P w K mg base ["rooms", "lot"] "want_lot" (defScope s_want_lot) f cdv A outer s H E) E := lets_def tk
  have ho : PassesOwn (model P w) (cxOf (CX P w) P w K mg base ["rooms", "lot"] "want_lot" (defScope s_want_lot) f cdv A outer s H E).A (cxOf (CX P w) P w K mg base ["rooms", "lot"] "want_lot" (defScope s_want_lot) f cdv A outer s H E).env (cxOf (CX P w) P w K mg base ["rooms", "lot"] "want_lot" (defScope s_want_lot) f cdv A outer s H E).xe := passes_of rfl
  exact (ess_one (es_if (eb_not (eb_truth (ev_cal (ok_is_lot F) (hr.mono (by decide)) rfl hT hx (ea_cons (ev_name 0) (ea_cons (ev_name 1) ea_nil))))) (ess_one (es_raise (F.x_BadLot _) (hr.mono (by decide)) rfl tk rfl (ev_neg ev_int))) ess_nil))
theorem ok_want_lot (F : Fx P w K mg cs tb) : Cal P w K mg base tb 4 "want_lot" ["rooms", "lot"] Lib.want_lot := by
  obtain ⟨f, fd, D, hm⟩ := F.d_want_lot
  exact ⟨f, fd, fn_want_lot F D, hm, D.kp, D.bindsN fun _ _ _ _ _ _ us hl => match us, hl with | [_, _], _ => rfl⟩

theorem sc_reached : FnScope ["near", "lot", "start", "inside", "met", "waiting", "x", "y"] ["near", "lot", "start"] (defScope s_reached) := ⟨rfl, rfl, rfl, by decide +kernel, rfl, by decide +kernel, by decide +kernel⟩
theorem fn_reached (F : Fx P w K mg cs tb) {f : Addr} {fd : FuncData} (D : FunD K "reached" "reached" (defArgs s_reached) (defBody s_reached) (defScope s_reached) [] [] f fd) : FnD P w K mg base tb 1 f fd ["near", "lot", "start"] Lib.reached := by
  have nd := sc_reached.nd
  refine fn_ok (N := ["near", "lot", "start", "inside", "met", "waiting", "x", "y"]) (ps := ["near", "lot", "start"]) D sc_reached (fun T hT cdv A outer s H E hr => ?_)
  have hu : (cxOf (CX P w) P w K mg base ["near", "lot", "start", "inside", "met", "waiting", "x", "y"] "reached" (defScope s_reached) f cdv A outer s H E).A.units + 65 < cLine := hu_room hr
  have tk := takes_of (X := (cxOf (CX P w) P w K mg base ["near", "lot", "start", "inside", "met", "waiting", "x", "y"] "reached" (defScope s_reached) f cdv A outer s H E)) rfl rfl rfl rfl
  have hx : Lets (cxOf (CX P w) P w K mg base ["near", "lot", "start", "inside", "met", "waiting", "x", "y"] "reached" (defScope s_reached) f cdv A outer s H E) E := lets_def tk
  have ho : PassesOwn (model P w) (cxOf (CX P w) P w K mg base ["near", "lot", "start", "inside", "met", "waiting", "x", "y"] "reached" (defScope s_reached) f cdv A outer s H E).A (cxOf (CX P w) P w K mg base ["near", "lot", "start", "inside", "met", "waiting", "x", "y"] "reached" (defScope s_reached) f cdv A outer s H E).env (cxOf (CX P w) P w K mg base ["near", "lot", "start", "inside", "met", "waiting", "x", "y"] "reached" (defScope s_reached) f cdv A outer s H E).xe := passes_of rfl
  exact (ess_cons (by first | exact (es_dc1 (own := [(("x" : Str), 6)]) Emp.k (Nat.lt_of_le_of_lt (Nat.le_add_right _ _) hu) rfl nd (ei_seq (ev_name 1)) (blkOk_by (by first | decide +kernel | rfl)) (fun s H C cl fp => (egw_name 6 nd)) (fun s H C cl fp => ets_nil) (fun s H C cl fp => (ev_name 6)) (fun s H C cl fp => ev_bl) rfl rfl (sw_dc rfl rfl rfl (by decide +kernel))) | exact (es_set 3 nd (ev_dc1 (own := [(("x" : Str), 6)]) Emp.k (Nat.lt_of_le_of_lt (Nat.le_add_right _ _) hu) rfl nd (ei_seq (ev_name 1)) (blkOk_by (by first | decide +kernel | rfl)) (fun s H C cl fp => (egw_name 6 nd)) (fun s H C cl fp => ets_nil) (fun s H C cl fp => (ev_name 6)) (fun s H C cl fp => ev_bl))))
  (ess_cons (es_set 4 nd (ev_disp (.inr rfl) (pps_cons (any_v fun D => (ev_name 2)) (any_v fun D => ev_bl) pps_nil)))
  (ess_cons (es_set 5 nd (ev_lstR (ea_cons (ev_name 2) ea_nil)))
  (ess_cons (es_while [6, 7] ho (eb_truth (ev_name 5)) (ess_cons (es_set 6 nd (ev_pop0 (ev_name 5)))
  (ess_one (es_for [7] ho rfl (ei_seq (ev_ix hu (ev_name 0) (ev_name 6))) (eg_name 7 nd) (ess_one (es_if (eb_w (ew_and (eb_in hu (ev_name 7) (ev_name 3)) (ew_and1 (eb_notIn hu (ev_name 7) (ev_name 4))))) (ess_cons (es_asg ev_bl (eg_sub hu (ev_name 4) (ev_name 7)))
  (ess_one (es_expr (ev_append (ev_name 5) (ev_name 7))))) ess_nil))))))
  (ess_one (es_ret (ev_tupC rfl F.n_tuple (ea_cons (ev_lc (own := [(("x" : Str), 6)]) mLst_end rfl nd (ei_seq (ev_name 1)) (blkOk_by (by first | decide +kernel | rfl)) (fun D s H C cl fp => (egw_name 6 nd)) (fun D s H C cl fp => (ets_one (eb_in hu (ev_name 6) (ev_name 4)))) (fun D s H C cl fp => (ev_name 6))) ea_nil))))))))
theorem ok_reached (F : Fx P w K mg cs tb) : Cal P w K mg base tb 1 "reached" ["near", "lot", "start"] Lib.reached := by
  obtain ⟨f, fd, D, hm⟩ := F.d_reached
  exact ⟨f, fd, fn_reached F D, hm, D.kp, D.bindsN fun _ _ _ _ _ _ us hl => match us, hl with | [_, _, _], _ => rfl⟩

theorem sc_parts_in : FnScope ["world", "lot", "told", "left", "part", "x"] ["world", "lot"] (defScope s_parts_in) := ⟨rfl, rfl, rfl, by decide +kernel, rfl, by decide +kernel, by decide +kernel⟩
theorem fn_parts_in (F : Fx P w K mg cs tb) {f : Addr} {fd : FuncData} (D : FunD K "parts_in" "parts_in" (defArgs s_parts_in) (defBody s_parts_in) (defScope s_parts_in) [] [] f fd) : FnD P w K mg base tb 2 f fd ["world", "lot"] Lib.parts_in := by
  have nd := sc_parts_in.nd
  refine fn_ok (N := ["world", "lot", "told", "left", "part", "x"]) (ps := ["world", "lot"]) D sc_parts_in (fun T hT cdv A outer s H E hr => ?_)
  have hu : (cxOf (CX P w) P w K mg base ["world", "lot", "told", "left", "part", "x"] "parts_in" (defScope s_parts_in) f cdv A outer s H E).A.units + 65 < cLine := hu_room hr
  have tk := takes_of (X := (cxOf (CX P w) P w K mg base ["world", "lot", "told", "left", "part", "x"] "parts_in" (defScope s_parts_in) f cdv A outer s H E)) rfl rfl rfl rfl
  have hx : Lets (cxOf (CX P w) P w K mg base ["world", "lot", "told", "left", "part", "x"] "parts_in" (defScope s_parts_in) f cdv A outer s H E) E := lets_def tk
  have ho : PassesOwn (model P w) (cxOf (CX P w) P w K mg base ["world", "lot", "told", "left", "part", "x"] "parts_in" (defScope s_parts_in) f cdv A outer s H E).A (cxOf (CX P w) P w K mg base ["world", "lot", "told", "left", "part", "x"] "parts_in" (defScope s_parts_in) f cdv A outer s H E).env (cxOf (CX P w) P w K mg base ["world", "lot", "told", "left", "part", "x"] "parts_in" (defScope s_parts_in) f cdv A outer s H E).xe := passes_of rfl
  exact (ess_cons (es_set 2 nd (ev_lstR ea_nil))
  (ess_cons (es_set 3 nd (ev_name 1))
  (ess_cons (es_while [4] ho (eb_truth (ev_name 3)) (ess_cons (es_set 4 nd (ev_cal (ok_reached F) (hr.mono (by decide)) rfl hT hx (ea_cons (ev_ix hu (ev_name 0) ev_int) (ea_cons (ev_name 3) (ea_cons (ev_ix hu (ev_name 3) ev_int) ea_nil)))))
  (ess_cons (es_expr (ev_append (ev_name 2) (ev_name 4)))
  (ess_one (es_set 3 nd (ev_tupC rfl F.n_tuple (ea_cons (ev_lc (own := [(("x" : Str), 5)]) mLst_end rfl nd (ei_seq (ev_name 3)) (blkOk_by (by first | decide +kernel | rfl)) (fun D s H C cl fp => (egw_name 5 nd)) (fun D s H C cl fp => (ets_one (eb_notIn hu (ev_name 5) (ev_name 4)))) (fun D s H C cl fp => (ev_name 5))) ea_nil)))))))
  (ess_one (es_ret (ev_tupC rfl F.n_tuple (ea_cons (ev_name 2) ea_nil)))))))
theorem ok_parts_in (F : Fx P w K mg cs tb) : Cal P w K mg base tb 2 "parts_in" ["world", "lot"] Lib.parts_in := by
  obtain ⟨f, fd, D, hm⟩ := F.d_parts_in
  exact ⟨f, fd, fn_parts_in F D, hm, D.kp, D.bindsN fun _ _ _ _ _ _ us hl => match us, hl with | [_, _], _ => rfl⟩

theorem sc_common_lets : FnScope ["one", "other", "standing"] ["one", "other"] (defScope s_common_lets) := ⟨rfl, rfl, rfl, by decide +kernel, rfl, by decide +kernel, by decide +kernel⟩
theorem fn_common_lets (F : Fx P w K mg cs tb) {f : Addr} {fd : FuncData} (D : FunD K "common_lets" "common_lets" (defArgs s_common_lets) (defBody s_common_lets) (defScope s_common_lets) [] [] f fd) : FnD P w K mg base tb 1 f fd ["one", "other"] Lib.common_lets := by
  have nd := sc_common_lets.nd
  refine fn_ok (N := ["one", "other", "standing"]) (ps := ["one", "other"]) D sc_common_lets (fun T hT cdv A outer s H E hr => ?_)
  have hu : (cxOf (CX P w) P w K mg base ["one", "other", "standing"] "common_lets" (defScope s_common_lets) f cdv A outer s H E).A.units + 65 < cLine := hu_room hr
  have tk := takes_of (X := (cxOf (CX P w) P w K mg base ["one", "other", "standing"] "common_lets" (defScope s_common_lets) f cdv A outer s H E)) rfl rfl rfl rfl
  have hx : Lets (cxOf (CX P w) P w K mg base ["one", "other", "standing"] "common_lets" (defScope s_common_lets) f cdv A outer s H E) E := lets_def tk
  have ho : PassesOwn (model P w) (cxOf (CX P w) P w K mg base ["one", "other", "standing"] "common_lets" (defScope s_common_lets) f cdv A outer s H E).A (cxOf (CX P w) P w K mg base ["one", "other", "standing"] "common_lets" (defScope s_common_lets) f cdv A outer s H E).env (cxOf (CX P w) P w K mg base ["one", "other", "standing"] "common_lets" (defScope s_common_lets) f cdv A outer s H E).xe := passes_of rfl
  exact (ess_one (es_ret (ev_tupC rfl F.n_tuple (ea_cons (ev_lc (own := [(("standing" : Str), 2)]) mLst_end rfl nd (ei_seq (ev_name 0)) (blkOk_by (by first | decide +kernel | rfl)) (fun D s H C cl fp => (egw_name 2 nd)) (fun D s H C cl fp => (ets_one (eb_in hu (ev_name 2) (ev_name 1)))) (fun D s H C cl fp => (ev_name 2))) ea_nil))))
theorem ok_common_lets (F : Fx P w K mg cs tb) : Cal P w K mg base tb 1 "common_lets" ["one", "other"] Lib.common_lets := by
  obtain ⟨f, fd, D, hm⟩ := F.d_common_lets
  exact ⟨f, fd, fn_common_lets F D, hm, D.kp, D.bindsN fun _ _ _ _ _ _ us hl => match us, hl with | [_, _], _ => rfl⟩

theorem sc_turned : FnScope ["standing", "word", "room"] ["standing"] (defScope s_turned) := ⟨rfl, rfl, rfl, by decide +kernel, rfl, by decide +kernel, by decide +kernel⟩
theorem fn_turned (F : Fx P w K mg cs tb) {f : Addr} {fd : FuncData} (D : FunD K "turned" "turned" (defArgs s_turned) (defBody s_turned) (defScope s_turned) [] [] f fd) : FnD P w K mg base tb 1 f fd ["standing"] Lib.turned := by
  have nd := sc_turned.nd
  refine fn_ok (N := ["standing", "word", "room"]) (ps := ["standing"]) D sc_turned (fun T hT cdv A outer s H E hr => ?_)
  have hu : (cxOf (CX P w) P w K mg base ["standing", "word", "room"] "turned" (defScope s_turned) f cdv A outer s H E).A.units + 65 < cLine := hu_room hr
  have tk := takes_of (X := (cxOf (CX P w) P w K mg base ["standing", "word", "room"] "turned" (defScope s_turned) f cdv A outer s H E)) rfl rfl rfl rfl
  have hx : Lets (cxOf (CX P w) P w K mg base ["standing", "word", "room"] "turned" (defScope s_turned) f cdv A outer s H E) E := lets_def tk
  have ho : PassesOwn (model P w) (cxOf (CX P w) P w K mg base ["standing", "word", "room"] "turned" (defScope s_turned) f cdv A outer s H E).A (cxOf (CX P w) P w K mg base ["standing", "word", "room"] "turned" (defScope s_turned) f cdv A outer s H E).env (cxOf (CX P w) P w K mg base ["standing", "word", "room"] "turned" (defScope s_turned) f cdv A outer s H E).xe := passes_of rfl
  exact (ess_cons (es_asg (ev_name 0) (eg_tup rfl (egs_cons (eg_name 1 nd) (egs_cons (eg_name 2 nd) egs_nil))))
  (ess_one (es_ret (ev_tup (ea_cons (ev_gd rfl F.gd_TURNED (ev_name 1)) (ea_cons (ev_name 2) ea_nil))))))
theorem ok_turned (F : Fx P w K mg cs tb) : Cal P w K mg base tb 1 "turned" ["standing"] Lib.turned := by
  obtain ⟨f, fd, D, hm⟩ := F.d_turned
  exact ⟨f, fd, fn_turned F D, hm, D.kp, D.bindsN fun _ _ _ _ _ _ us hl => match us, hl with | [_], _ => rfl⟩

theorem sc_turned_lets : FnScope ["lets", "apart", "inside", "outside", "standing"] ["lets"] (defScope s_turned_lets) := ⟨rfl, rfl, rfl, by decide +kernel, rfl, by decide +kernel, by decide +kernel⟩
theorem fn_turned_lets (F : Fx P w K mg cs tb) {f : Addr} {fd : FuncData} (D : FunD K "turned_lets" "turned_lets" (defArgs s_turned_lets) (defBody s_turned_lets) (defScope s_turned_lets) [] [] f fd) : FnD P w K mg base tb 2 f fd ["lets"] Lib.turned_lets := by
  have nd := sc_turned_lets.nd
  refine fn_ok (N := ["lets", "apart", "inside", "outside", "standing"]) (ps := ["lets"]) D sc_turned_lets (fun T hT cdv A outer s H E hr => ?_)
  have hu : (cxOf (CX P w) P w K mg base ["lets", "apart", "inside", "outside", "standing"] "turned_lets" (defScope s_turned_lets) f cdv A outer s H E).A.units + 65 < cLine := hu_room hr
  have tk := takes_of (X := (cxOf (CX P w) P w K mg base ["lets", "apart", "inside", "outside", "standing"] "turned_lets" (defScope s_turned_lets) f cdv A outer s H E)) rfl rfl rfl rfl
  have hx : Lets (cxOf (CX P w) P w K mg base ["lets", "apart", "inside", "outside", "standing"] "turned_lets" (defScope s_turned_lets) f cdv A outer s H E) E := lets_def tk
  have ho : PassesOwn (model P w) (cxOf (CX P w) P w K mg base ["lets", "apart", "inside", "outside", "standing"] "turned_lets" (defScope s_turned_lets) f cdv A outer s H E).A (cxOf (CX P w) P w K mg base ["lets", "apart", "inside", "outside", "standing"] "turned_lets" (defScope s_turned_lets) f cdv A outer s H E).env (cxOf (CX P w) P w K mg base ["lets", "apart", "inside", "outside", "standing"] "turned_lets" (defScope s_turned_lets) f cdv A outer s H E).xe := passes_of rfl
  exact (ess_cons (by first | exact (es_setLc (own := [(("standing" : Str), 4)]) mLst_end rfl nd rfl rfl (sw_true rfl rfl rfl (by decide +kernel)) (ei_seq (ev_name 0)) (blkOk_by (by first | decide +kernel | rfl)) (fun D s H C cl fp => (egw_name 4 nd)) (fun D s H C cl fp => (ets_one (eb_eq hu (ev_ix hu (ev_name 4) ev_int) ev_str))) (fun D s H C cl fp => (ev_name 4))) | exact (es_set 1 nd (ev_lc (own := [(("standing" : Str), 4)]) mLst_end rfl nd (ei_seq (ev_name 0)) (blkOk_by (by first | decide +kernel | rfl)) (fun D s H C cl fp => (egw_name 4 nd)) (fun D s H C cl fp => (ets_one (eb_eq hu (ev_ix hu (ev_name 4) ev_int) ev_str))) (fun D s H C cl fp => (ev_name 4)))))
  (ess_cons (by first | exact (es_setLc (own := [(("standing" : Str), 4)]) mLst_end rfl nd rfl rfl (sw_true rfl rfl rfl (by decide +kernel)) (ei_seq (ev_name 0)) (blkOk_by (by first | decide +kernel | rfl)) (fun D s H C cl fp => (egw_name 4 nd)) (fun D s H C cl fp => (ets_one (eb_eq hu (ev_ix hu (ev_name 4) ev_int) ev_str))) (fun D s H C cl fp => (ev_cal (ok_turned F) (hr.mono (by decide)) rfl hT lets_never (ea_cons (ev_name 4) ea_nil)))) | exact (es_set 2 nd (ev_lc (own := [(("standing" : Str), 4)]) mLst_end rfl nd (ei_seq (ev_name 0)) (blkOk_by (by first | decide +kernel | rfl)) (fun D s H C cl fp => (egw_name 4 nd)) (fun D s H C cl fp => (ets_one (eb_eq hu (ev_ix hu (ev_name 4) ev_int) ev_str))) (fun D s H C cl fp => (ev_cal (ok_turned F) (hr.mono (by decide)) rfl hT lets_never (ea_cons (ev_name 4) ea_nil))))))
  (ess_cons (by first | exact (es_setLc (own := [(("standing" : Str), 4)]) mLst_end rfl nd rfl rfl (sw_true rfl rfl rfl (by decide +kernel)) (ei_seq (ev_name 0)) (blkOk_by (by first | decide +kernel | rfl)) (fun D s H C cl fp => (egw_name 4 nd)) (fun D s H C cl fp => (ets_one (eb_eq hu (ev_ix hu (ev_name 4) ev_int) ev_str))) (fun D s H C cl fp => (ev_cal (ok_turned F) (hr.mono (by decide)) rfl hT lets_never (ea_cons (ev_name 4) ea_nil)))) | exact (es_set 3 nd (ev_lc (own := [(("standing" : Str), 4)]) mLst_end rfl nd (ei_seq (ev_name 0)) (blkOk_by (by first | decide +kernel | rfl)) (fun D s H C cl fp => (egw_name 4 nd)) (fun D s H C cl fp => (ets_one (eb_eq hu (ev_ix hu (ev_name 4) ev_int) ev_str))) (fun D s H C cl fp => (ev_cal (ok_turned F) (hr.mono (by decide)) rfl hT lets_never (ea_cons (ev_name 4) ea_nil))))))
  (ess_one (es_ret (ev_tupC rfl F.n_tuple (ea_cons (ev_add (ev_add (ev_name 1) (ev_name 2)) (ev_name 3)) ea_nil)))))))
theorem ok_turned_lets (F : Fx P w K mg cs tb) : Cal P w K mg base tb 2 "turned_lets" ["lets"] Lib.turned_lets := by
  obtain ⟨f, fd, D, hm⟩ := F.d_turned_lets
  exact ⟨f, fd, fn_turned_lets F D, hm, D.kp, D.bindsN fun _ _ _ _ _ _ us hl => match us, hl with | [_], _ => rfl⟩

theorem sc_all_lets : FnScope ["book", "many", "lets", "rooms", "sayings", "x", "y", "said"] ["book"] (defScope s_all_lets) := ⟨rfl, rfl, rfl, by decide +kernel, rfl, by decide +kernel, by decide +kernel⟩
theorem fn_all_lets (F : Fx P w K mg cs tb) {f : Addr} {fd : FuncData} (D : FunD K "all_lets" "all_lets" (defArgs s_all_lets) (defBody s_all_lets) (defScope s_all_lets) [] [] f fd) : FnD P w K mg base tb 3 f fd ["book"] Lib.all_lets := by
  have nd := sc_all_lets.nd
  refine fn_ok (N := ["book", "many", "lets", "rooms", "sayings", "x", "y", "said"]) (ps := ["book"]) D sc_all_lets (fun T hT cdv A outer s H E hr => ?_)
  have hu : (cxOf (CX P w) P w K mg base ["book", "many", "lets", "rooms", "sayings", "x", "y", "said"] "all_lets" (defScope s_all_lets) f cdv A outer s H E).A.units + 65 < cLine := hu_room hr
  have tk := takes_of (X := (cxOf (CX P w) P w K mg base ["book", "many", "lets", "rooms", "sayings", "x", "y", "said"] "all_lets" (defScope s_all_lets) f cdv A outer s H E)) rfl rfl rfl rfl
  have hx : Lets (cxOf (CX P w) P w K mg base ["book", "many", "lets", "rooms", "sayings", "x", "y", "said"] "all_lets" (defScope s_all_lets) f cdv A outer s H E) E := lets_def tk
  have ho : PassesOwn (model P w) (cxOf (CX P w) P w K mg base ["book", "many", "lets", "rooms", "sayings", "x", "y", "said"] "all_lets" (defScope s_all_lets) f cdv A outer s H E).A (cxOf (CX P w) P w K mg base ["book", "many", "lets", "rooms", "sayings", "x", "y", "said"] "all_lets" (defScope s_all_lets) f cdv A outer s H E).env (cxOf (CX P w) P w K mg base ["book", "many", "lets", "rooms", "sayings", "x", "y", "said"] "all_lets" (defScope s_all_lets) f cdv A outer s H E).xe := passes_of rfl
  exact (ess_cons (es_asg (ev_name 0) (eg_tup rfl (egs_cons (eg_name 3 nd) (egs_cons (eg_name 4 nd) egs_nil))))
  (ess_cons (es_set 1 nd (ev_len rfl F.n_len (ea_cons (ev_name 3) ea_nil)))
  (ess_cons (by first | exact (es_dc2 (own := [(("x" : Str), 5), (("y" : Str), 6)]) Emp.t (Nat.lt_of_le_of_lt (Nat.le_add_right _ _) hu) rfl nd (ei_rg1 rfl F.n_range (ev_name 1)) (blkOk_by (by first | decide +kernel | rfl)) (by decide) (fun s H C cl fp => (egw_name 5 nd)) (fun s H C cl fp => ets_nil) (fun s H C cl fp => (ei_rg1 rfl F.n_range (ev_name 1))) (fun s H C cl fp => (egw_name 6 nd)) (fun s H C cl fp => (ets_one (eb_ne hu (ev_name 5) (ev_name 6)))) (fun s H C cl fp => (ev_tup (ea_cons (ev_name 5) (ea_cons (ev_name 6) ea_nil)))) (fun s H C cl fp => (ev_cal (ok_all_standings F) (hr.mono (by decide)) rfl hT lets_never (ea_cons (ev_name 3) (ea_cons (ev_name 5) (ea_cons (ev_name 6) ea_nil))))) rfl rfl (sw_dc rfl rfl rfl (by decide +kernel))) | exact (es_set 2 nd (ev_dc2 (own := [(("x" : Str), 5), (("y" : Str), 6)]) Emp.t (Nat.lt_of_le_of_lt (Nat.le_add_right _ _) hu) rfl nd (ei_rg1 rfl F.n_range (ev_name 1)) (blkOk_by (by first | decide +kernel | rfl)) (by decide) (fun s H C cl fp => (egw_name 5 nd)) (fun s H C cl fp => ets_nil) (fun s H C cl fp => (ei_rg1 rfl F.n_range (ev_name 1))) (fun s H C cl fp => (egw_name 6 nd)) (fun s H C cl fp => (ets_one (eb_ne hu (ev_name 5) (ev_name 6)))) (fun s H C cl fp => (ev_tup (ea_cons (ev_name 5) (ea_cons (ev_name 6) ea_nil)))) (fun s H C cl fp => (ev_cal (ok_all_standings F) (hr.mono (by decide)) rfl hT lets_never (ea_cons (ev_name 3) (ea_cons (ev_name 5) (ea_cons (ev_name 6) ea_nil))))))))
  (ess_cons (es_for [5, 6, 7] ho rfl (ei_seq (ev_name 4)) (eg_tup rfl (egs_cons (eg_name 5 nd) (egs_cons (eg_name 6 nd) (egs_cons (eg_name 7 nd) egs_nil)))) (ess_cons (es_asg (ev_cal (ok_common_lets F) (hr.mono (by decide)) rfl hT hx (ea_cons (ev_ix hu (ev_name 2) (ev_tup (ea_cons (ev_name 5) (ea_cons (ev_name 6) ea_nil)))) (ea_cons (ev_name 7) ea_nil))) (eg_sub hu (ev_name 2) (ev_tup (ea_cons (ev_name 5) (ea_cons (ev_name 6) ea_nil)))))
  (ess_one (es_asg (ev_cal (ok_common_lets F) (hr.mono (by decide)) rfl hT hx (ea_cons (ev_ix hu (ev_name 2) (ev_tup (ea_cons (ev_name 6) (ea_cons (ev_name 5) ea_nil)))) (ea_cons (ev_cal (ok_turned_lets F) (hr.mono (by decide)) rfl hT hx (ea_cons (ev_name 7) ea_nil)) ea_nil))) (eg_sub hu (ev_name 2) (ev_tup (ea_cons (ev_name 6) (ea_cons (ev_name 5) ea_nil))))))))
  (ess_one (es_ret (ev_name 2)))))))
theorem ok_all_lets (F : Fx P w K mg cs tb) : Cal P w K mg base tb 3 "all_lets" ["book"] Lib.all_lets := by
  obtain ⟨f, fd, D, hm⟩ := F.d_all_lets
  exact ⟨f, fd, fn_all_lets F D, hm, D.kp, D.bindsN fun _ _ _ _ _ _ us hl => match us, hl with | [_], _ => rfl⟩

theorem sc_near_of : FnScope ["rooms", "lets", "many", "x", "y"] ["rooms", "lets"] (defScope s_near_of) := ⟨rfl, rfl, rfl, by decide +kernel, rfl, by decide +kernel, by decide +kernel⟩
theorem fn_near_of (F : Fx P w K mg cs tb) {f : Addr} {fd : FuncData} (D : FunD K "near_of" "near_of" (defArgs s_near_of) (defBody s_near_of) (defScope s_near_of) [] [] f fd) : FnD P w K mg base tb 1 f fd ["rooms", "lets"] Lib.near_of := by
  have nd := sc_near_of.nd
  refine fn_ok (N := ["rooms", "lets", "many", "x", "y"]) (ps := ["rooms", "lets"]) D sc_near_of (fun T hT cdv A outer s H E hr => ?_)
  have hu : (cxOf (CX P w) P w K mg base ["rooms", "lets", "many", "x", "y"] "near_of" (defScope s_near_of) f cdv A outer s H E).A.units + 65 < cLine := hu_room hr
  have tk := takes_of (X := (cxOf (CX P w) P w K mg base ["rooms", "lets", "many", "x", "y"] "near_of" (defScope s_near_of) f cdv A outer s H E)) rfl rfl rfl rfl
  have hx : Lets (cxOf (CX P w) P w K mg base ["rooms", "lets", "many", "x", "y"] "near_of" (defScope s_near_of) f cdv A outer s H E) E := lets_def tk
  have ho : PassesOwn (model P w) (cxOf (CX P w) P w K mg base ["rooms", "lets", "many", "x", "y"] "near_of" (defScope s_near_of) f cdv A outer s H E).A (cxOf (CX P w) P w K mg base ["rooms", "lets", "many", "x", "y"] "near_of" (defScope s_near_of) f cdv A outer s H E).env (cxOf (CX P w) P w K mg base ["rooms", "lets", "many", "x", "y"] "near_of" (defScope s_near_of) f cdv A outer s H E).xe := passes_of rfl
  exact (ess_cons (es_set 2 nd (ev_len rfl F.n_len (ea_cons (ev_name 0) ea_nil)))
  (ess_one (es_ret (ev_tupC rfl F.n_tuple (ea_cons (ev_lc (own := [(("x" : Str), 3)]) mLst_end rfl nd (ei_rg1 rfl F.n_range (ev_name 2)) (blkOk_by (by first | decide +kernel | rfl)) (fun D s H C cl fp => (egw_name 3 nd)) (fun D s H C cl fp => ets_nil) (fun D s H C cl fp => (ev_tupC rfl F.n_tuple (ea_cons (ev_lc (own := [(("y" : Str), 4)]) mLst_end rfl nd (ei_rg1 rfl F.n_range (ev_name 2)) (blkOk_by (by first | decide +kernel | rfl)) (fun D s H C cl fp => (egw_name 4 nd)) (fun D s H C cl fp => (ets_one (eb_w (ew_and (eb_ne hu (ev_name 4) (ev_name 3)) (ew_and1 (eb_notIn hu (ev_gtupX rfl F.t_APART) (ev_ix hu (ev_name 1) (ev_tup (ea_cons (ev_name 3) (ea_cons (ev_name 4) ea_nil)))))))))) (fun D s H C cl fp => (ev_name 4))) ea_nil)))) ea_nil)))))
theorem ok_near_of (F : Fx P w K mg cs tb) : Cal P w K mg base tb 1 "near_of" ["rooms", "lets"] Lib.near_of := by
  obtain ⟨f, fd, D, hm⟩ := F.d_near_of
  exact ⟨f, fd, fn_near_of F D, hm, D.kp, D.bindsN fun _ _ _ _ _ _ us hl => match us, hl with | [_, _], _ => rfl⟩

theorem sc_world_of : FnScope ["book", "lets"] ["book"] (defScope s_world_of) := ⟨rfl, rfl, rfl, by decide +kernel, rfl, by decide +kernel, by decide +kernel⟩
theorem fn_world_of (F : Fx P w K mg cs tb) {f : Addr} {fd : FuncData} (D : FunD K "world_of" "world_of" (defArgs s_world_of) (defBody s_world_of) (defScope s_world_of) [] [] f fd) : FnD P w K mg base tb 4 f fd ["book"] Lib.world_of := by
  have nd := sc_world_of.nd
  refine fn_ok (N := ["book", "lets"]) (ps := ["book"]) D sc_world_of (fun T hT cdv A outer s H E hr => ?_)
  have hu : (cxOf (CX P w) P w K mg base ["book", "lets"] "world_of" (defScope s_world_of) f cdv A outer s H E).A.units + 65 < cLine := hu_room hr
  have tk := takes_of (X := (cxOf (CX P w) P w K mg base ["book", "lets"] "world_of" (defScope s_world_of) f cdv A outer s H E)) rfl rfl rfl rfl
  have hx : Lets (cxOf (CX P w) P w K mg base ["book", "lets"] "world_of" (defScope s_world_of) f cdv A outer s H E) E := lets_def tk
  have ho : PassesOwn (model P w) (cxOf (CX P w) P w K mg base ["book", "lets"] "world_of" (defScope s_world_of) f cdv A outer s H E).A (cxOf (CX P w) P w K mg base ["book", "lets"] "world_of" (defScope s_world_of) f cdv A outer s H E).env (cxOf (CX P w) P w K mg base ["book", "lets"] "world_of" (defScope s_world_of) f cdv A outer s H E).xe := passes_of rfl
  exact (ess_cons (es_set 1 nd (ev_cal (ok_all_lets F) (hr.mono (by decide)) rfl hT hx (ea_cons (ev_name 0) ea_nil)))
  (ess_one (es_ret (ev_tup (ea_cons (ev_ix hu (ev_name 0) ev_int) (ea_cons (ev_name 1) (ea_cons (ev_cal (ok_near_of F) (hr.mono (by decide)) rfl hT hx (ea_cons (ev_ix hu (ev_name 0) ev_int) (ea_cons (ev_name 1) ea_nil))) ea_nil)))))))
theorem ok_world_of (F : Fx P w K mg cs tb) : Cal P w K mg base tb 4 "world_of" ["book"] Lib.world_of := by
  obtain ⟨f, fd, D, hm⟩ := F.d_world_of
  exact ⟨f, fd, fn_world_of F D, hm, D.kp, D.bindsN fun _ _ _ _ _ _ us hl => match us, hl with | [_], _ => rfl⟩

theorem sc_parts : FnScope ["book", "lot"] ["book", "lot"] (defScope s_parts) := ⟨rfl, rfl, rfl, by decide +kernel, rfl, by decide +kernel, by decide +kernel⟩
theorem fn_parts (F : Fx P w K mg cs tb) {f : Addr} {fd : FuncData} (D : FunD K "parts" "parts" (defArgs s_parts) (defBody s_parts) (defScope s_parts) [] [] f fd) : FnD P w K mg base tb 7 f fd ["book", "lot"] Lib.parts := by
  have nd := sc_parts.nd
  refine fn_ok (N := ["book", "lot"]) (ps := ["book", "lot"]) D sc_parts (fun T hT cdv A outer s H E hr => ?_)
  have hu : (cxOf (CX P w) P w K mg base ["book", "lot"] "parts" (defScope s_parts) f cdv A outer s H E).A.units + 65 < cLine := hu_room hr
  have tk := takes_of (X := (cxOf (CX P w) P w K mg base ["book", "lot"] "parts" (defScope s_parts) f cdv A outer s H E)) rfl rfl rfl rfl
  have hx : Lets (cxOf (CX P w) P w K mg base ["book", "lot"] "parts" (defScope s_parts) f cdv A outer s H E) E := lets_def tk
  have ho : PassesOwn (model P w) (cxOf (CX P w) P w K mg base ["book", "lot"] "parts" (defScope s_parts) f cdv A outer s H E).A (cxOf (CX P w) P w K mg base ["book", "lot"] "parts" (defScope s_parts) f cdv A outer s H E).env (cxOf (CX P w) P w K mg base ["book", "lot"] "parts" (defScope s_parts) f cdv A outer s H E).xe := passes_of rfl
  exact (ess_cons (es_set 0 nd (ev_cal (ok_made_book F) (hr.mono (by decide)) rfl hT hx (ea_cons (ev_name 0) ea_nil)))
  (ess_cons (es_expr (ev_cal (ok_want_lot F) (hr.mono (by decide)) rfl hT hx (ea_cons (ev_ix hu (ev_name 0) ev_int) (ea_cons (ev_name 1) ea_nil))))
  (ess_one (es_ret (ev_cal (ok_parts_in F) (hr.mono (by decide)) rfl hT hx (ea_cons (ev_cal (ok_world_of F) (hr.mono (by decide)) rfl hT hx (ea_cons (ev_name 0) ea_nil)) (ea_cons (ev_name 1) ea_nil)))))))
theorem ok_parts (F : Fx P w K mg cs tb) : Cal P w K mg base tb 7 "parts" ["book", "lot"] Lib.parts := by
  obtain ⟨f, fd, D, hm⟩ := F.d_parts
  exact ⟨f, fd, fn_parts F D, hm, D.kp, D.bindsN fun _ _ _ _ _ _ us hl => match us, hl with | [_, _], _ => rfl⟩

theorem sc__law_lots_right : FnScope ["_law_source", "_law_rooms_here", "_law_sayings", "_law_other_here", "_law_links", "_law_some", "_law_lots", "_law_x", "_law_lot_here", "_law_book_here", "_law_many", "_law_due", "_law_row", "_law_y"] ["_law_source", "_law_rooms_here", "_law_sayings", "_law_other_here"] (defScope s__law_lots_right) := ⟨rfl, rfl, rfl, by decide +kernel, rfl, by decide +kernel, by decide +kernel⟩
theorem fn__law_lots_right (F : Fx P w K mg cs tb) {f : Addr} {fd : FuncData} (D : FunD K "_law_lots_right" "_law_lots_right" (defArgs s__law_lots_right) (defBody s__law_lots_right) (defScope s__law_lots_right) [] [] f fd) : FnD P w K mg base tb 8 f fd ["_law_source", "_law_rooms_here", "_law_sayings", "_law_other_here"] d__law_lots_right := by
  have nd := sc__law_lots_right.nd
  refine fn_ok (N := ["_law_source", "_law_rooms_here", "_law_sayings", "_law_other_here", "_law_links", "_law_some", "_law_lots", "_law_x", "_law_lot_here", "_law_book_here", "_law_many", "_law_due", "_law_row", "_law_y"]) (ps := ["_law_source", "_law_rooms_here", "_law_sayings", "_law_other_here"]) D sc__law_lots_right (fun T hT cdv A outer s H E hr => ?_)
  have hu : (cxOf (CX P w) P w K mg base ["_law_source", "_law_rooms_here", "_law_sayings", "_law_other_here", "_law_links", "_law_some", "_law_lots", "_law_x", "_law_lot_here", "_law_book_here", "_law_many", "_law_due", "_law_row", "_law_y"] "_law_lots_right" (defScope s__law_lots_right) f cdv A outer s H E).A.units + 65 < cLine := hu_room hr
  have tk := takes_of (X := (cxOf (CX P w) P w K mg base ["_law_source", "_law_rooms_here", "_law_sayings", "_law_other_here", "_law_links", "_law_some", "_law_lots", "_law_x", "_law_lot_here", "_law_book_here", "_law_many", "_law_due", "_law_row", "_law_y"] "_law_lots_right" (defScope s__law_lots_right) f cdv A outer s H E)) rfl rfl rfl rfl
  have hx : Lets (cxOf (CX P w) P w K mg base ["_law_source", "_law_rooms_here", "_law_sayings", "_law_other_here", "_law_links", "_law_some", "_law_lots", "_law_x", "_law_lot_here", "_law_book_here", "_law_many", "_law_due", "_law_row", "_law_y"] "_law_lots_right" (defScope s__law_lots_right) f cdv A outer s H E) E := lets_def tk
  have ho : PassesOwn (model P w) (cxOf (CX P w) P w K mg base ["_law_source", "_law_rooms_here", "_law_sayings", "_law_other_here", "_law_links", "_law_some", "_law_lots", "_law_x", "_law_lot_here", "_law_book_here", "_law_many", "_law_due", "_law_row", "_law_y"] "_law_lots_right" (defScope s__law_lots_right) f cdv A outer s H E).A (cxOf (CX P w) P w K mg base ["_law_source", "_law_rooms_here", "_law_sayings", "_law_other_here", "_law_links", "_law_some", "_law_lots", "_law_x", "_law_lot_here", "_law_book_here", "_law_many", "_law_due", "_law_row", "_law_y"] "_law_lots_right" (defScope s__law_lots_right) f cdv A outer s H E).env (cxOf (CX P w) P w K mg base ["_law_source", "_law_rooms_here", "_law_sayings", "_law_other_here", "_law_links", "_law_some", "_law_lots", "_law_x", "_law_lot_here", "_law_book_here", "_law_many", "_law_due", "_law_row", "_law_y"] "_law_lots_right" (defScope s__law_lots_right) f cdv A outer s H E).xe := passes_of rfl
  exact (ess_cons (es_par 9 10 rfl nd (ea_cons (ev_tup (ea_cons (ev_name 1) (ea_cons (ev_tupC rfl F.n_tuple (ea_cons (ev_name 2) ea_nil)) ea_nil))) (ea_cons (ev_len rfl F.n_len (ea_cons (ev_name 1) ea_nil)) ea_nil)))
  (ess_cons (by first | exact (es_setLc (own := [(("_law_row" : Str), 12)]) mLst_end rfl nd rfl rfl (sw_true rfl rfl rfl (by decide +kernel)) (ei_seq (ev_name 2)) (blkOk_by (by first | decide +kernel | rfl)) (fun D s H C cl fp => (egw_name 12 nd)) (fun D s H C cl fp => (ets_one (eb_notIn hu (ev_tup (ea_cons ev_str (ea_cons ev_int ea_nil))) (ev_ix hu (ev_name 12) ev_int)))) (fun D s H C cl fp => (ev_tup (ea_cons (ev_ix hu (ev_name 12) ev_int) (ea_cons (ev_ix hu (ev_name 12) ev_int) ea_nil))))) | exact (es_set 4 nd (ev_lc (own := [(("_law_row" : Str), 12)]) mLst_end rfl nd (ei_seq (ev_name 2)) (blkOk_by (by first | decide +kernel | rfl)) (fun D s H C cl fp => (egw_name 12 nd)) (fun D s H C cl fp => (ets_one (eb_notIn hu (ev_tup (ea_cons ev_str (ea_cons ev_int ea_nil))) (ev_ix hu (ev_name 12) ev_int)))) (fun D s H C cl fp => (ev_tup (ea_cons (ev_ix hu (ev_name 12) ev_int) (ea_cons (ev_ix hu (ev_name 12) ev_int) ea_nil)))))))
  (ess_cons (es_set 5 nd (ev_tupC rfl F.n_tuple (ea_cons (ev_lc (own := [(("_law_x" : Str), 7)]) mLst_end rfl nd (ei_rg1 rfl F.n_range (ev_name 10)) (blkOk_by (by first | decide +kernel | rfl)) (fun D s H C cl fp => (egw_name 7 nd)) (fun D s H C cl fp => (ets_one (eb_gt (ev_cal (ok__law_take F) (hr.mono (by decide)) rfl hT lets_never (ea_cons (ev_name 0) (ea_cons ev_int ea_nil))) ev_int))) (fun D s H C cl fp => (ev_name 7))) ea_nil)))
  (ess_cons (es_set 6 nd (ev_addR (ev_lst (ea_cons (ev_tupRg rfl rfl F.n_tuple rfl F.n_range (ev_name 10)) (ea_cons (ev_tup ea_nil) (ea_cons (ev_name 5) ea_nil)))) (ev_lc (own := [(("_law_x" : Str), 7)]) mLst_end rfl nd (ei_rg1 rfl F.n_range (ev_min rfl rfl F.n_min (ea_cons (ev_name 10) (ea_cons ev_int ea_nil)))) (blkOk_by (by first | decide +kernel | rfl)) (fun D s H C cl fp => (egw_name 7 nd)) (fun D s H C cl fp => ets_nil) (fun D s H C cl fp => (ev_tup (ea_cons (ev_name 7) ea_nil))))))
  (ess_cons (es_for [7] ho rfl (ei_seq (ev_sl (ev_name 5) eo_none (eo_some ev_int))) (eg_name 7 nd) (ess_one (es_expr (ev_append (ev_name 6) (ev_tupC rfl F.n_tuple (ea_cons (ev_lc (own := [(("_law_y" : Str), 13)]) mLst_end rfl nd (ei_seq (ev_name 5)) (blkOk_by (by first | decide +kernel | rfl)) (fun D s H C cl fp => (egw_name 13 nd)) (fun D s H C cl fp => (ets_one (eb_ne hu (ev_name 13) (ev_name 7)))) (fun D s H C cl fp => (ev_name 13))) ea_nil))))))
  (ess_cons (es_for [8, 11] ho rfl (ei_seq (ev_name 6)) (eg_name 8 nd) (ess_cons (es_set 11 nd (ev_cal (ok__law_closed F) (hr.mono (by decide)) rfl hT hx (ea_cons (ev_name 4) (ea_cons (ev_name 8) ea_nil))))
  (ess_cons (es_if (eb_not (eb_truth (ev_cal (ok__law_is_told F) (hr.mono (by decide)) rfl hT hx (ea_cons (ev_cal (ok_parts F) (hr.mono (by decide)) rfl hT hx (ea_cons (ev_name 9) (ea_cons (ev_name 8) ea_nil))) (ea_cons (ev_name 11) ea_nil))))) (ess_one (es_ret ev_bl)) ess_nil)
  (ess_cons (es_expr (ev_cal (ok_parts F) (hr.mono (by decide)) rfl hT hx (ea_cons (ev_name 3) (ea_cons (ev_tup (ea_cons ev_int (ea_cons ev_int ea_nil))) ea_nil))))
  (ess_one (es_if (eb_not (eb_truth (ev_cal (ok__law_is_told F) (hr.mono (by decide)) rfl hT hx (ea_cons (ev_cal (ok_parts F) (hr.mono (by decide)) rfl hT hx (ea_cons (ev_name 9) (ea_cons (ev_name 8) ea_nil))) (ea_cons (ev_name 11) ea_nil))))) (ess_one (es_ret ev_bl)) ess_nil))))))
  (ess_one (es_ret ev_bl))))))))
theorem ok__law_lots_right (F : Fx P w K mg cs tb) : Cal P w K mg base tb 8 "_law_lots_right" ["_law_source", "_law_rooms_here", "_law_sayings", "_law_other_here"] d__law_lots_right := by
  obtain ⟨f, fd, D, hm⟩ := F.d__law_lots_right
  exact ⟨f, fd, fn__law_lots_right F D, hm, D.kp, D.bindsN fun _ _ _ _ _ _ us hl => match us, hl with | [_, _, _, _], _ => rfl⟩

theorem sc__law_refused : FnScope ["_law_book_here", "_law_lot_here", "fault"] ["_law_book_here", "_law_lot_here"] (defScope s__law_refused) := ⟨rfl, rfl, rfl, by decide +kernel, rfl, by decide +kernel, by decide +kernel⟩
theorem fn__law_refused (F : Fx P w K mg cs tb) {f : Addr} {fd : FuncData} (D : FunD K "_law_refused" "_law_refused" (defArgs s__law_refused) (defBody s__law_refused) (defScope s__law_refused) [] [] f fd) : FnD P w K mg base tb 8 f fd ["_law_book_here", "_law_lot_here"] d__law_refused := by
  have nd := sc__law_refused.nd
  refine fn_ok (N := ["_law_book_here", "_law_lot_here", "fault"]) (ps := ["_law_book_here", "_law_lot_here"]) D sc__law_refused (fun T hT cdv A outer s H E hr => ?_)
  have hu : (cxOf (CX P w) P w K mg base ["_law_book_here", "_law_lot_here", "fault"] "_law_refused" (defScope s__law_refused) f cdv A outer s H E).A.units + 65 < cLine := hu_room hr
  have tk := takes_of (X := (cxOf (CX P w) P w K mg base ["_law_book_here", "_law_lot_here", "fault"] "_law_refused" (defScope s__law_refused) f cdv A outer s H E)) rfl rfl rfl rfl
  have hx : Lets (cxOf (CX P w) P w K mg base ["_law_book_here", "_law_lot_here", "fault"] "_law_refused" (defScope s__law_refused) f cdv A outer s H E) E := lets_def tk
  have ho : PassesOwn (model P w) (cxOf (CX P w) P w K mg base ["_law_book_here", "_law_lot_here", "fault"] "_law_refused" (defScope s__law_refused) f cdv A outer s H E).A (cxOf (CX P w) P w K mg base ["_law_book_here", "_law_lot_here", "fault"] "_law_refused" (defScope s__law_refused) f cdv A outer s H E).env (cxOf (CX P w) P w K mg base ["_law_book_here", "_law_lot_here", "fault"] "_law_refused" (defScope s__law_refused) f cdv A outer s H E).xe := passes_of rfl
  exact (ess_cons (es_try hT.1 F.cls rfl rfl nd tk (fun E tpn txe tk ho => have hx : Lets _ E := lets_def tk; (ess_one (es_expr (ev_cal (ok_parts F) (hr.mono (by decide)) rfl hT hx (ea_cons (ev_name 0) (ea_cons (ev_name 1) ea_nil)))))) (.named (i := 2) rfl rfl rfl (by decide) F.k_BadLot.choose_spec (fun a oe c d C pn R => (ess_one (es_ret (ev_and (ev_eq hu (ev_what R (ev_name 2)) (ev_neg ev_int)) (ev_one (ev_not (ev_isE R F.cls F.n_ValueError rfl F.n_isinstance (ea_cons (ev_name 2) (ea_cons (ev_glob rfl F.k_BadThing.choose_spec) ea_nil))))))))) (.named (i := 2) rfl rfl rfl (by decide) F.k_Refused.choose_spec (fun a oe c d C pn R => (ess_one (es_ret ev_bl))) .nil)))
  (ess_one (es_ret ev_bl)))
theorem ok__law_refused (F : Fx P w K mg cs tb) : Cal P w K mg base tb 8 "_law_refused" ["_law_book_here", "_law_lot_here"] d__law_refused := by
  obtain ⟨f, fd, D, hm⟩ := F.d__law_refused
  exact ⟨f, fd, fn__law_refused F D, hm, D.kp, D.bindsN fun _ _ _ _ _ _ us hl => match us, hl with | [_, _], _ => rfl⟩

theorem sc_law : FnScope ["_law_script", "_law_every_here", "_law_k", "_law_other_here", "_law_loose", "_law_source", "_law_many", "_law_bad", "_law_rooms_here", "_law_sayings"] ["_law_script"] (defScope s_law) := ⟨rfl, rfl, rfl, by decide +kernel, rfl, by decide +kernel, by decide +kernel⟩
theorem fn_law (F : Fx P w K mg cs tb) {f : Addr} {fd : FuncData} (D : FunD K "law" "law" (defArgs s_law) (defBody s_law) (defScope s_law) [] [] f fd) : FnD P w K mg base tb 9 f fd ["_law_script"] d_law := by
  have nd := sc_law.nd
  refine fn_ok (N := ["_law_script", "_law_every_here", "_law_k", "_law_other_here", "_law_loose", "_law_source", "_law_many", "_law_bad", "_law_rooms_here", "_law_sayings"]) (ps := ["_law_script"]) D sc_law (fun T hT cdv A outer s H E hr => ?_)
  have hu : (cxOf (CX P w) P w K mg base ["_law_script", "_law_every_here", "_law_k", "_law_other_here", "_law_loose", "_law_source", "_law_many", "_law_bad", "_law_rooms_here", "_law_sayings"] "law" (defScope s_law) f cdv A outer s H E).A.units + 65 < cLine := hu_room hr
  have tk := takes_of (X := (cxOf (CX P w) P w K mg base ["_law_script", "_law_every_here", "_law_k", "_law_other_here", "_law_loose", "_law_source", "_law_many", "_law_bad", "_law_rooms_here", "_law_sayings"] "law" (defScope s_law) f cdv A outer s H E)) rfl rfl rfl rfl
  have hx : Lets (cxOf (CX P w) P w K mg base ["_law_script", "_law_every_here", "_law_k", "_law_other_here", "_law_loose", "_law_source", "_law_many", "_law_bad", "_law_rooms_here", "_law_sayings"] "law" (defScope s_law) f cdv A outer s H E) E := lets_def tk
  have ho : PassesOwn (model P w) (cxOf (CX P w) P w K mg base ["_law_script", "_law_every_here", "_law_k", "_law_other_here", "_law_loose", "_law_source", "_law_many", "_law_bad", "_law_rooms_here", "_law_sayings"] "law" (defScope s_law) f cdv A outer s H E).A (cxOf (CX P w) P w K mg base ["_law_script", "_law_every_here", "_law_k", "_law_other_here", "_law_loose", "_law_source", "_law_many", "_law_bad", "_law_rooms_here", "_law_sayings"] "law" (defScope s_law) f cdv A outer s H E).env (cxOf (CX P w) P w K mg base ["_law_script", "_law_every_here", "_law_k", "_law_other_here", "_law_loose", "_law_source", "_law_many", "_law_bad", "_law_rooms_here", "_law_sayings"] "law" (defScope s_law) f cdv A outer s H E).xe := passes_of rfl
  exact (ess_cons (es_set 1 nd (ev_cal (ok__law_every F) (hr.mono (by decide)) rfl hT hx (ea_cons (ev_tup (ea_cons ev_int (ea_cons ev_int ea_nil))) (ea_cons ev_int (ea_cons ev_int ea_nil)))))
  (ess_cons (es_par 3 4 rfl nd (ea_cons (ev_tup (ea_cons (ev_tup (ea_cons ev_int (ea_cons ev_int ea_nil))) (ea_cons (ev_tup (ea_cons (ev_tup (ea_cons ev_int (ea_cons ev_int (ea_cons (ev_tupC rfl F.n_tuple (ea_cons (ev_sl (ev_name 1) (eo_some ev_int) eo_none) ea_nil)) ea_nil)))) ea_nil)) ea_nil))) (ea_cons (ev_tup (ea_cons (ev_tup (ea_cons ev_int (ea_cons ev_int ea_nil))) (ea_cons (ev_tup (ea_cons (ev_tup (ea_cons ev_int (ea_cons ev_int (ea_cons (ev_tup (ea_cons (ev_ix hu (ev_name 1) ev_int) ea_nil)) ea_nil)))) ea_nil)) ea_nil))) ea_nil)))
  (ess_cons (es_if (eb_w (ew_or (eb_not (eb_truth (ev_cal (ok__law_is_told F) (hr.mono (by decide)) rfl hT hx (ea_cons (ev_cal (ok_parts F) (hr.mono (by decide)) rfl hT hx (ea_cons (ev_name 3) (ea_cons (ev_tup (ea_cons ev_int (ea_cons ev_int ea_nil))) ea_nil))) (ea_cons (ev_tup (ea_cons (ev_tup (ea_cons ev_int (ea_cons ev_int ea_nil))) ea_nil)) ea_nil))))) (ew_or1 (eb_not (eb_truth (ev_cal (ok__law_is_told F) (hr.mono (by decide)) rfl hT hx (ea_cons (ev_cal (ok_parts F) (hr.mono (by decide)) rfl hT hx (ea_cons (ev_name 4) (ea_cons (ev_tup (ea_cons ev_int (ea_cons ev_int ea_nil))) ea_nil))) (ea_cons (ev_tup (ea_cons (ev_tup (ea_cons ev_int ea_nil)) (ea_cons (ev_tup (ea_cons ev_int ea_nil)) ea_nil))) ea_nil)))))))) (ess_one (es_ret ev_bl)) ess_nil)
  (ess_cons (es_for [2, 5, 6, 8, 9, 7] ho rfl (ei_rg1 rfl F.n_range (ev_max rfl rfl F.n_max (ea_cons ev_int (ea_cons (ev_min rfl rfl F.n_min (ea_cons (ev_len rfl F.n_len (ea_cons (ev_name 0) ea_nil)) (ea_cons ev_int ea_nil))) ea_nil)))) (eg_name 2 nd) (ess_cons (es_set 5 nd (ev_cal (ok__law_pool F) (hr.mono (by decide)) rfl hT hx (ea_cons (ev_name 0) (ea_cons (ev_name 2) ea_nil))))
  (ess_cons (es_set 6 nd (ev_if (eb_eq hu (ev_cal (ok__law_take F) (hr.mono (by decide)) rfl hT hx (ea_cons (ev_name 5) (ea_cons ev_int ea_nil))) ev_int) ev_int (ev_add ev_int (ev_cal (ok__law_take F) (hr.mono (by decide)) rfl hT hx (ea_cons (ev_name 5) (ea_cons ev_int ea_nil))))))
  (ess_cons (es_asg (ev_if (eb_gt (ev_cal (ok__law_take F) (hr.mono (by decide)) rfl hT hx (ea_cons (ev_name 5) (ea_cons ev_int ea_nil))) ev_int) (ev_cal (ok__law_book F) (hr.mono (by decide)) rfl hT hx (ea_cons (ev_name 5) (ea_cons (ev_name 6) ea_nil))) (ev_cal (ok__law_chain F) (hr.mono (by decide)) rfl hT hx (ea_cons (ev_name 5) (ea_cons (ev_name 6) ea_nil)))) (eg_tup rfl (egs_cons (eg_name 8 nd) (egs_cons (eg_name 9 nd) egs_nil))))
  (ess_cons (es_if (eb_not (eb_truth (ev_cal (ok__law_lots_right F) (hr.mono (by decide)) rfl hT hx (ea_cons (ev_name 5) (ea_cons (ev_name 8) (ea_cons (ev_name 9) (ea_cons (ev_name 3) ea_nil))))))) (ess_one (es_ret ev_bl)) ess_nil)
  (ess_cons (es_set 7 nd (ev_lst (ea_cons (ev_tup (ea_cons ev_int (ea_cons ev_int ea_nil))) (ea_cons (ev_tup (ea_cons ev_int (ea_cons ev_int ea_nil))) (ea_cons (ev_tup (ea_cons (ev_name 6) ea_nil)) (ea_cons (ev_tup (ea_cons (ev_neg ev_int) ea_nil)) (ea_cons (ev_tup (ea_cons ev_int (ea_cons (ev_name 6) ea_nil))) (ea_cons ev_int (ea_cons (ev_tup (ea_cons (ev_sub (ev_name 6) ev_int) (ea_cons ev_int ea_nil))) (ea_cons (ev_tup (ea_cons (ev_tup (ea_cons ev_int ea_nil)) ea_nil)) ea_nil))))))))))
  (ess_one (es_if (eb_not (eb_truth (ev_cal (ok__law_refused F) (hr.mono (by decide)) rfl hT hx (ea_cons (ev_tup (ea_cons (ev_name 8) (ea_cons (ev_tupC rfl F.n_tuple (ea_cons (ev_name 9) ea_nil)) ea_nil))) (ea_cons (ev_cal (ok__law_one F) (hr.mono (by decide)) rfl hT hx (ea_cons (ev_name 5) (ea_cons (ev_name 7) ea_nil))) ea_nil))))) (ess_one (es_ret ev_bl)) ess_nil))))))))
  (ess_one (es_ret ev_bl))))))
theorem ok_law (F : Fx P w K mg cs tb) : Cal P w K mg base tb 9 "law" ["_law_script"] d_law := by
  obtain ⟨f, fd, D, hm⟩ := F.d_law
  exact ⟨f, fd, fn_law F D, hm, D.kp, D.bindsN fun _ _ _ _ _ _ us hl => match us, hl with | [_], _ => rfl⟩
end
end K05
set_option Elab.async false
set_option linter.all false
set_option maxRecDepth 100000
set_option maxHeartbeats 2000000
/-! LibS: what the draws of a law give. -/
namespace Lib
open PySem PySem.Spec PyProof.Rows L2 DN
variable {Xp : EP}
theorem take_spec {Q : PV → Store → Prop} {st : Store} {s : Nat} {top : Int} (hs : SrcAt st s) (h0 : 0 < top) (h1 : top < B200) (q : ∀ i st', 0 ≤ i → i < top → Dr s st st' → Q (.int i) st') : (wpX Xp) (_law_take [.ref s, .int top] st) Q := by
  obtain ⟨a, b, e, ha, hb⟩ := hs
  have hlt : s < st.length := (List.getElem?_eq_some_iff.mp e).1
  simp only [B200_eq] at h1
  refine wp_dFn rfl ?_
  by_cases h : 0 < a
  · simp [wp_ixR e, h, h0, h1]
    have d : Dr s st (st.set s (.lst [.int (a / top), .int b])) := .inr ⟨_, _, Int.ediv_nonneg ha (Int.le_of_lt h0), hb, rfl⟩
    exact wp_setL e (j := 0) (by rfl) (Gc.dr0 (s := s) (by simp) d (q _ _ (Int.emod_nonneg _ (by omega)) (Int.emod_lt_of_pos _ h0) d))
  · simp [wp_ixR e, h]
    have hc : 0 ≤ (b * 39373 + 7) % 2147483647 ∧ (b * 39373 + 7) % 2147483647 < 2147483647 := ⟨Int.emod_nonneg _ (by omega), Int.emod_lt_of_pos _ (by omega)⟩
    generalize (b * 39373 + 7) % 2147483647 = c at hc
    refine wp_setL e (j := 1) (by rfl) ?_
    have e2 : (st.set s (.lst [.int a, .int c]))[s]? = some (.lst [.int a, .int c]) := by rw [List.getElem?_set_self hlt]
    simp [wp_ixR e2, h0]
    have d : Dr s st (st.set s (.lst [.int a, .int c])) := .inr ⟨_, _, ha, hc.1, rfl⟩
    exact ⟨by omega, Gc.dr0 (s := s) (by simp) d (q _ _ (Int.emod_nonneg _ (by omega)) (Int.emod_lt_of_pos _ h0) d)⟩
theorem toD0s_ints : ∀ ns : List Int, toD0s (ns.map PV.int) = some (ns.map PyData.int)
  | [] => by simp [toD0s]
  | n :: ns => by simp [toD0s, toD0, toD0s_ints ns]
theorem ints_shaped (ns : List Int) : SeqAt.shaped (.list (ns.map PyData.int)) = true := by
  have : PyData.canLayAll0 (ns.map PyData.int) = true ∧ PyData.depthAll (ns.map PyData.int) ≤ 0 := canLayAll_of fun d hd => by
    obtain ⟨i, _, rfl⟩ := List.mem_map.mp hd
    simp [PyData.canLay0, PyData.depth]
  refine shaped_of (by simpa [PyData.canLay0] using this.1) ?_
  simp only [PyData.depth]
  omega
theorem wp_neScr {Q : PV → Store → Prop} {st : Store} {ns : List Int} : (wpX Xp) (pNe (.scr (ns.map PV.int)) (.lst []) st) Q = Q (.bl (!decide (ns = []))) st := by
  have h1 : toD (.scr (ns.map PV.int)) st = some (.list (ns.map PyData.int)) := by simp [toD, toD0, toD0s_ints]
  have h2 : toD (.lst []) st = some (.list []) := by simp [toD, toD0, toD0s]
  have h3 := ints_shaped ns
  have h4 := ints_shaped []
  simp only [List.map_nil] at h4
  have h5 : PyData.eqv (.list (ns.map PyData.int)) (.list []) = decide (ns = []) := by cases ns <;> simp [PyData.eqv, PyData.eqvAll]
  simp only [pNe, pEqB, h1, h2, h3, h4, h5, and_self, if_true, Res.bind, wp_ok]
theorem pool_spec {Q : PV → Store → Prop} {st : Store} {ns : List Int} {k : Int} (hk : 0 ≤ k) (hk2 : k < 1000) (q : ∀ a b : Int, 0 ≤ a → 0 ≤ b → Q (.ref st.length) (st ++ [.lst [.int a, .int b]])) : (wpX Xp) (_law_pool [.scr (ns.map PV.int), .int k] st) Q := by
  refine wp_dFnK rfl ?_
  have b1 : (-18446744073709551616 < k ∧ k < 18446744073709551616) := by omega
  have m0 : ∀ (p : Prop) [Decidable p], (if p then (1 : Int) else 0) ≥ 0 ∧ (if p then (1 : Int) else 0) < 2 := fun p _ => by split <;> omega
  have x0 : ∀ c : Int, 0 ≤ (if c < -1 - c then -1 - c else c) := fun c => by split <;> omega
  by_cases h : k < (ns.length : Int)
  · obtain ⟨v, e, hv, _⟩ := atI_some (l := ns.map PV.int) hk (by simpa using h)
    obtain ⟨c, _, rfl⟩ := List.mem_map.mp hv
    simp [h, e, b1]
    exact ⟨fun _ => q _ _ (x0 c) (Int.emod_nonneg _ (by omega)), fun _ => q _ _ (by omega) (Int.emod_nonneg _ (by omega))⟩
  · by_cases h2 : ns = []
    · subst h2
      have h3 : ¬ (k < 0) := by omega
      have w := fun (Q : PV → Store → Prop) => wp_neScr (Xp := Xp) (Q := Q) (st := st) (ns := [])
      simp only [List.map_nil] at w
      simp [h3, b1, w]
      exact q _ _ (by omega) (Int.emod_nonneg _ (by omega))
    · obtain ⟨c, r, rfl⟩ := List.exists_cons_of_ne_nil h2
      have w := fun (Q : PV → Store → Prop) => wp_neScr (Xp := Xp) (Q := Q) (st := st) (ns := c :: r)
      simp only [List.map_cons] at w
      have h' : ¬ (k < (r.length : Int) + 1) := by simpa using h
      simp [h', b1, w]
      exact ⟨fun _ => q _ _ (by omega) (Int.emod_nonneg _ (by omega)), fun _ => q _ _ (by omega) (Int.emod_nonneg _ (by omega))⟩
theorem one_spec {Q : PV → Store → Prop} {st : Store} {s : Nat} {l : List PV} (hs : SrcAt st s) (h0 : l ≠ []) (h1 : l.length ≤ SZ) (hc : cls l = true) (q : ∀ v st', v ∈ l → Dr s st st' → Q v st') : (wpX Xp) (_law_one [.ref s, .lst l] st) Q := by
  refine wp_dFn rfl ?_
  have hl : 0 < l.length := List.length_pos_iff.mpr h0
  simp only [SZ_lit] at h1
  simp
  refine take_spec hs (by omega) (by simp only [B200_eq]; omega) fun i st' h2 h3 hd => ?_
  obtain ⟨v, e, hv, _⟩ := atI_some (l := l) h2 h3
  simp [e]
  exact Gc.dr0 (s := s) (cls_iff.mp hc v hv) hd (q v st' hv hd)
end Lib
set_option Elab.async false
set_option linter.all false
set_option maxRecDepth 100000
set_option maxHeartbeats 2000000
/-! LibF: forests. -/
namespace Lib
open PySem PySem.Spec PyProof.Rows L2 DN
variable {Xp : EP}
abbrev Pl := Option (Nat × Nat)
def nv (n : Nat) : PV := .int n
def rv (R : List Nat) : PV := .tup (R.map nv)
def pp (h : Nat × Nat) : PV := .tup [.int h.1, .int h.2]
def pv : Pl → PV
  | none => .non
  | some h => pp h
@[simp] theorem isNon_pp {h : Nat × Nat} : DN.isNon (pp h) = false := rfl
@[simp] theorem isNon_pvS {h : Nat × Nat} : DN.isNon (pv (some h)) = false := rfl
@[simp] theorem isNon_pvN : DN.isNon (pv none) = true := rfl
def fv (F : List Pl) : PV := .tup (F.map pv)
def up (F : List Pl) (x : Nat) : Pl := (F[x]?).getD none
def clb (F : List Pl) : Nat → Pl → List (Nat × Nat)
  | 0, _ => []
  | _ + 1, none => []
  | k + 1, some h => h :: clb F k (up F h.1)
def Wf (F : List Pl) : Prop := ∀ p, some p ∈ F → p.1 < F.length
theorem up_mem {F : List Pl} {x : Nat} {h : Nat × Nat} (e : up F x = some h) : some h ∈ F := by
  unfold up at e
  cases q : F[x]? with
  | none => rw [q] at e; cases e
  | some p => rw [q] at e; simp at e; subst e; exact List.mem_of_getElem? q
theorem atI_map {α β : Type} {f : α → β} {l : List α} {i : Nat} (h : i < l.length) : atI (l.map f) (i : Int) = some (f l[i]) := by
  rw [atI_int (by omega) (by simpa using h)]
  simp [h]
theorem atI_fv {F : List Pl} {x : Nat} (h : x < F.length) : atI (F.map pv) (x : Int) = some (pv (up F x)) := by
  rw [atI_map h]
  simp [up, h]
def rm (R : List Nat) (x : Nat) : Nat := (R[x]?).getD 0
theorem atI_rv {R : List Nat} {x : Nat} (h : x < R.length) : atI (R.map nv) (x : Int) = some (.int (rm R x)) := by
  rw [atI_map h]
  simp [rm, h, nv]
section
variable {Q : PV → Store → Prop} {st : Store} {F : List Pl} {R : List Nat} {x y : Nat}
theorem rgN {n : Nat} (h : n ≤ 1000) : rgOk (n : Int) = true := rgOk_small (by omega) (by omega)
theorem cls_pp (l : List (Nat × Nat)) : cls (l.map pp) = true := cls_iff.mpr fun p hp => by
  obtain ⟨h, _, rfl⟩ := List.mem_map.mp hp
  simp [pp]
theorem climb_spec (hw : Wf F) (hx : x < F.length) (hz : F.length ≤ 1000) (q : Q (.lst ((clb F F.length (up F x)).map pp)) st) : (wpX Xp) (_law_climb [fv F, .int x] st) Q := by
  refine wp_fn ?_
  simp [fv, atI_fv hx, rgN hz]
  refine wps_forRo (fun i σ st' => ∃ (k : Nat) (p : Pl) (acc : List (Nat × Nat)), i = (F.length : Int) - k ∧ k ≤ F.length ∧ σ = [some (fv F), some (.int x), none, some (.ref st.length), some (pv p)] ∧ st' = st ++ [.lst (acc.map pp)] ∧ acc ++ clb F k p = clb F F.length (up F x) ∧ acc.length + k = F.length ∧ (p ∈ F ∨ p = none)) ?_ ?_ ?_
  · rintro I hI i σ st' ⟨k, p, acc, rfl, hk, rfl, rfl, e, hl, hp⟩ hi
    obtain ⟨k, rfl⟩ : ∃ m, k = m + 1 := ⟨k - 1, by omega⟩
    simp
    cases p with
    | none =>
      simp [clb] at e
      simp [pv, wipeA]
      exact Gc.lstP (junk := [.lst (acc.map pp)]) (n := st.length) (l := acc.map pp) (cls_pp _) rfl (Nat.le_refl _) (by simp) (by rw [e]; exact q)
    | some h =>
      have hh := hw h (hp.resolve_right (by simp))
      simp [pv]
      refine ⟨isL_ref (l := acc.map pp) (by simp), wp_append (l := acc.map pp) (by simp) (by simp only [List.length_map, SZ_lit]; omega) ?_⟩
      simp [pp, fv, atI_fv hh, wipeA]
      refine hI _ _ _ ⟨k, up F h.1, acc ++ [h], by omega, by omega, rfl, by simp [pp], by rw [← e]; simp [clb], by simp; omega, ?_⟩
      cases q : up F h.1 with
      | none => exact .inr rfl
      | some h' => exact .inl (up_mem q)
  · rintro i σ st' ⟨k, p, acc, rfl, hk, rfl, rfl, e, hl, hp⟩ hi
    have : k = 0 := by omega
    subst this
    simp [clb] at e
    simp [wipeA]
    exact Gc.lstP (junk := [.lst (acc.map pp)]) (n := st.length) (l := acc.map pp) (cls_pp _) rfl (Nat.le_refl _) (by simp) (by rw [e]; exact q)
  · refine ⟨F.length, up F x, [], by omega, by omega, rfl, rfl, rfl, by simp, ?_⟩
    cases q : up F x with
    | none => exact .inr rfl
    | some h' => exact .inl (up_mem q)
inductive Sd where
  | ap | inn (r : Nat) | aro (r : Nat)
  deriving DecidableEq
def sv : Sd → PV
  | .ap => .tup [.str ("apart" : Str), .int 0]
  | .inn r => .tup [.str ("in" : Str), .int r]
  | .aro r => .tup [.str ("around" : Str), .int r]
def std (F : List Pl) (x y : Nat) : Sd := match (clb F F.length (up F x)).find? fun h => decide (h.1 = y) with
  | some h => .inn h.2
  | none => match (clb F F.length (up F y)).find? fun h => decide (h.1 = x) with
    | some h => .aro h.2
    | none => .ap
theorem cl_sv {s : Sd} : cl (sv s) = true := by cases s <;> simp [sv]
theorem standing_spec (hw : Wf F) (hx : x < F.length) (hy : y < F.length) (hz : F.length ≤ 1000) (q : Q (sv (std F x y)) st) : (wpX Xp) (_law_standing [fv F, .int x, .int y] st) Q := by
  refine wp_fn ?_
  simp
  refine climb_spec hw hx hz ?_
  simp
  refine wps_forM (fun r σ st' => σ = [some (fv F), some (.int x), some (.int y), none, none] ∧ st = st' ∧ (clb F F.length (up F x)).find? (fun h => decide (h.1 = y)) = r.find? (fun h => decide (h.1 = y))) _ ?_ ?_ ⟨rfl, rfl, rfl⟩
  · rintro I hI p r σ st' ⟨rfl, rfl, e⟩
    simp [pp]
    by_cases h : p.1 = y
    · simp [h]
      refine Gc.same (by simp) ?_
      simpa [std, e, h, sv] using q
    · rw [cnd_neg (decide_eq_false (by omega))]
      simp [wipeA]
      exact hI _ _ _ ⟨rfl, rfl, by rw [e]; simp [h]⟩
  · rintro σ st2 ⟨rfl, rfl, e⟩
    simp [wipeA]
    refine climb_spec hw hy hz ?_
    simp
    refine wps_forM (fun r σ st' => σ = [some (fv F), some (.int x), some (.int y), none, none] ∧ st = st' ∧ (clb F F.length (up F y)).find? (fun h => decide (h.1 = x)) = r.find? (fun h => decide (h.1 = x))) _ ?_ ?_ ⟨rfl, rfl, rfl⟩
    · rintro I hI p r σ st' ⟨rfl, rfl, e2⟩
      simp [pp]
      by_cases h : p.1 = x
      · simp [h]
        refine Gc.same (by simp) ?_
        simpa [std, e, e2, h, sv] using q
      · rw [cnd_neg (decide_eq_false (by omega))]
        simp [wipeA]
        exact hI _ _ _ ⟨rfl, rfl, by rw [e2]; simp [h]⟩
    · rintro σ st' ⟨rfl, rfl, e2⟩
      try simp [wipeA]
      refine Gc.same (by simp) ?_
      simpa [std, e, e2, sv] using q
end
end Lib
set_option Elab.async false
set_option linter.all false
set_option maxRecDepth 100000
set_option maxHeartbeats 2000000
/-! LibG: what is a forest. -/
namespace Lib
open PySem PySem.Spec PyProof.Rows L2 DN
variable {Xp : EP}
section
variable {Q : PV → Store → Prop} {st : Store} {F : List Pl} {R : List Nat} {x y : Nat} {p : PV}
def isWh : PV → Bool
  | .int _ => true
  | _ => false
theorem whole_spec (hp : dab 20 p = true) (q : Q (.bl (isWh p)) st) : (wpX Xp) (is_whole [p] st) Q := by
  refine wp_fn ?_
  simp [wp_isInt hp, wp_isBool hp]
  cases p <;> simp [isIn, isBo, isWh] at * <;> exact Gc.same (by simp) q
def nmB (m : Int) : PV → Bool
  | .int i => decide (0 ≤ i) && decide (i < m)
  | _ => false
theorem number_spec {m : Int} (hp : dab 20 p = true) (q : Q (.bl (nmB m p)) st) : (wpX Xp) (_law_number [p, .int m] st) Q := by
  refine wp_fn ?_
  simp [wp_isInt hp, wp_isBool hp]
  cases p <;> simp [isIn, isBo, nmB] at *
  case int i =>
    by_cases h : 0 ≤ i <;> simp [h] at *
    · exact Gc.same (by simp) q
    · exact Gc.same (by simp) q
  all_goals exact Gc.same (by simp) q
/-- a right place of x -/
def plB (R : List Nat) (x : Nat) : PV → Bool
  | .non => true
  | .tup [.int h, .int r] => decide (0 ≤ h) && (decide (h < R.length) && (!decide (h = x) && (decide (0 ≤ r) && decide (r < rm R h.toNat))))
  | _ => false
theorem atI_rvI {h : Int} (h0 : 0 ≤ h) (h1 : h < R.length) : atI (R.map nv) h = some (.int (rm R h.toNat)) := by
  have := atI_rv (R := R) (x := h.toNat) (by omega)
  rwa [show ((h.toNat : Nat) : Int) = h by omega] at this
theorem place_spec (hp : dab 20 p = true) (q : Q (.bl (plB R x p)) st) : (wpX Xp) (is_place [rv R, .int x, p] st) Q := by
  refine wp_fn ?_
  cases p with
  | non => simp; exact Gc.same (by simp) q
  | tup l =>
    match l with
    | [] => simp [wp_isTup hp, isTp]; exact Gc.same (by simp) q
    | [a] => simp [wp_isTup hp, isTp]; exact Gc.same (by simp) (by cases a <;> exact q)
    | a :: b :: c :: l => simp [wp_isTup hp, isTp]; rw [cnd_neg (by simp; omega)]; exact Gc.same (by simp) (by cases a <;> cases b <;> exact q)
    | [a, b] =>
      have ha : dab 20 a = true := dab_mono (n := 19) (by omega) (by simp [dab] at hp; exact hp.1)
      have hb : dab 20 b = true := dab_mono (n := 19) (by omega) (by simp [dab] at hp; exact hp.2)
      simp [wp_isTup hp, isTp]
      refine whole_spec ha ?_
      simp
      cases a with
      | int h =>
        simp [isWh]
        refine whole_spec hb ?_
        simp
        cases b with
        | int r =>
          simp [isWh, rv]
          by_cases h0 : 0 ≤ h
          · by_cases h1 : h < R.length
            · by_cases h2 : h = x
              · subst h2
                have h1' : x < R.length := by omega
                simp [h1']
                exact Gc.same (by simp) (by simpa [plB, h1'] using q)
              · simp [h0, h1, h2, atI_rvI h0 h1]
                by_cases h3 : 0 ≤ r
                · simp [h3]
                  exact Gc.same (by simp) (by simpa [plB, h0, h1, h2, h3] using q)
                · simp [h3]
                  exact Gc.same (by simp) (by simpa [plB, h0, h1, h2, h3] using q)
            · simp [h0, h1]
              exact Gc.same (by simp) (by simpa [plB, h0, h1] using q)
          · simp [h0]
            exact Gc.same (by simp) (by simpa [plB, h0] using q)
        | _ => simp [isWh]; exact Gc.same (by simp) q
      | _ => simp [isWh]; exact Gc.same (by simp) (by cases b <;> exact q)
  | _ => first | (simp [dab] at hp; done) | (simp [wp_isTup hp, isTp]; exact Gc.same (by simp) q)
/-- the first wrong place -/
def fb (R : List Nat) : Nat → List PV → Option Nat
  | _, [] => none
  | i, p :: r => if plB R i p then fb R (i + 1) r else some i
def ov : Option Nat → PV
  | none => .non
  | some i => .int i
theorem cl_ov {o : Option Nat} : cl (ov o) = true := by cases o <;> simp [ov]
theorem first_bad_spec {l : List PV} (hl : ∀ p ∈ l, dab 20 p = true) (q : Q (ov (fb R 0 l)) st) : (wpX Xp) (first_bad [rv R, .tup l] st) Q := by
  refine wp_fn ?_
  simp
  refine wps_forLo (fun m σ st' => ∃ i r, m = DN.numbered i r ∧ σ = [some (rv R), some (.tup l), none, none] ∧ st = st' ∧ (∀ p ∈ r, p ∈ l) ∧ fb R 0 l = fb R i r) _ ?_ ?_ ⟨0, l, rfl, rfl, rfl, fun _ h => h, rfl⟩
  · rintro I hI p m σ st' ⟨i, r, e, rfl, rfl, hm, e2⟩
    cases r with
    | nil => cases e
    | cons a r =>
      simp only [DN.numbered, List.cons.injEq] at e
      obtain ⟨rfl, rfl⟩ := e
      simp
      refine place_spec (hl _ (hm _ List.mem_cons_self)) ?_
      simp
      cases h : plB R i a with
      | false =>
        simp
        exact Gc.same (by simp) (by simpa [e2, fb, h, ov] using q)
      | true =>
        simp [wipeA]
        exact hI _ _ _ ⟨_, _, rfl, rfl, rfl, fun p hp => hm p (List.mem_cons_of_mem _ hp), by rw [e2]; simp [fb, h]⟩
  · rintro σ st' ⟨i, r, e, rfl, rfl, hm, e2⟩
    cases r with
    | nil =>
      try simp [wipeA]
      exact Gc.same (by simp) (by simpa [e2, fb, ov] using q)
    | cons a r => cases e
/-- x lies in itself -/
def inIt (F : List Pl) (x : Nat) : Bool := (clb F F.length (up F x)).any fun h => decide (h.1 = x)
theorem lies_spec (hw : Wf F) (hx : x < F.length) (hz : F.length ≤ 1000) (q : Q (.bl (inIt F x)) st) : (wpX Xp) (lies_in_itself [fv F, .int x] st) Q := by
  refine wp_fn ?_
  simp [fv, rgN hz]

  refine wps_forRo (fun i σ st' => ∃ (k h : Nat), i = (F.length : Int) - k ∧ k ≤ F.length ∧ σ = [some (fv F), some (.int x), some (.int h), none] ∧ st = st' ∧ h < F.length ∧ inIt F x = (clb F k (up F h)).any fun h => decide (h.1 = x)) ?_ ?_ ?_
  · rintro I hI i σ st' ⟨k, h, rfl, hk, rfl, rfl, hh, e⟩ hi
    obtain ⟨k, rfl⟩ : ∃ m, k = m + 1 := ⟨k - 1, by omega⟩
    simp [fv, atI_fv hh]
    cases u : up F h with
    | none =>
      simp
      exact Gc.same (by simp) (by simpa [e, u, clb] using q)
    | some g =>
      have hg := hw g (up_mem u)
      simp
      simp [pv, pp]
      by_cases z : g.1 = x
      · simp [z]
        exact Gc.same (by simp) (by simpa [e, u, clb, z] using q)
      · rw [cnd_neg (decide_eq_false (by omega))]
        simp [wipeA]
        exact hI _ _ _ ⟨k, g.1, by omega, by omega, rfl, rfl, hg, by rw [e, u]; simp [clb, z]⟩
  · rintro i σ st' ⟨k, h, rfl, hk, rfl, rfl, hh, e⟩ hi
    have : k = 0 := by omega
    subst this
    try simp [wipeA]
    exact Gc.same (by simp) (by simpa [e, clb] using q)
  · exact ⟨F.length, x, by omega, by omega, rfl, rfl, hx, rfl⟩
/-- the first thing that lies in itself, from i on -/
def fr (F : List Pl) : Nat → Nat → Option Nat
  | 0, _ => none
  | k + 1, i => if inIt F i then some i else fr F k (i + 1)
theorem first_ring_spec (hw : Wf F) (hz : F.length ≤ 1000) (q : Q (ov (fr F F.length 0)) st) : (wpX Xp) (first_ring [fv F] st) Q := by
  refine wp_fn ?_
  simp [fv, rgN hz]
  refine wps_forRo (fun i σ st' => ∃ (k h : Nat), i = (h : Int) ∧ k + h = F.length ∧ σ = [some (fv F), none] ∧ st = st' ∧ fr F F.length 0 = fr F k h) ?_ ?_ ?_
  · rintro I hI i σ st' ⟨k, h, rfl, hk, rfl, rfl, e⟩ hi
    obtain ⟨k, rfl⟩ : ∃ m, k = m + 1 := ⟨k - 1, by omega⟩
    simp
    refine lies_spec hw (by omega) hz ?_
    simp
    cases z : inIt F h with
    | true =>
      simp
      exact Gc.same (by simp) (by simpa [e, fr, z, ov] using q)
    | false =>
      simp [wipeA]
      exact hI _ _ _ ⟨k, h + 1, by omega, by omega, rfl, rfl, by rw [e]; simp [fr, z]⟩
  · rintro i σ st' ⟨k, h, rfl, hk, rfl, rfl, e⟩ hi
    have : k = 0 := by omega
    subst this
    try simp [wipeA]
    exact Gc.same (by simp) (by simpa [e, fr, ov] using q)
  · exact ⟨F.length, 0, rfl, by omega, rfl, rfl, rfl⟩
/-- rooms are right -/
def roB : PV → Bool
  | .tup l => decide (l.length ≤ 24) && l.all fun p => nmB 5 p
  | _ => false
theorem rooms_ok_spec (hp : dab 20 p = true) (q : Q (.bl (roB p)) st) : (wpX Xp) (is_rooms [p] st) Q := by
  refine wp_fn ?_
  cases p with
  | tup l =>
    have hl : ∀ p ∈ l, dab 19 p = true := by simpa [dab] using hp
    simp [wp_isTup hp, isTp]
    by_cases h : l.length ≤ 24
    · rw [cnd_neg (decide_eq_false (by omega))]
      try simp
      have key := fun Xp QL e1 e2 => wp_lcF (Xp := Xp) (g := id) (t := tName 1) (QL := QL) (st := st) (σ := [some (.tup l), none]) (c := bOr (bNot (bTruth (dAl is_whole (dAc (dVar 1) dA0)))) (bNot (bVal (dChain pLe pLe (dC (.int 0)) (dVar 1) (dC (.int 4)))))) (e := dVar 1) (fun p => !nmB 5 p) id l e1 e2
      simp only [List.map_id] at key
      refine key _ _ ?_ ?_
      · intro p h1
        simp
        refine whole_spec (dab_mono (by omega) (hl p h1)) ?_
        cases p <;> simp [isWh, nmB]
        case int i =>
          by_cases h2 : 0 ≤ i
          · simp [h2]
            omega
          · simp [h2]
      · have := List.length_filter_le (fun p => !nmB 5 p) l
        refine ⟨by omega, ?_⟩
        rw [wp_eqNil (List.all_eq_true.mpr fun p hp => dab_mono (by omega) (hl p (List.mem_filter.mp hp).1))]
        refine Gc.same (by simp) ?_
        have e : (l.filter fun p => !nmB 5 p).isEmpty = roB (.tup l) := by
          rw [Bool.eq_iff_iff]
          simp [roB, h]
        rw [e]
        exact q
    · rw [cnd_pos (decide_eq_true (by omega))]
      exact Gc.same (by simp) (by simpa [roB, h] using q)
  | _ => first | (simp [dab] at hp; done) | (simp [wp_isTup hp, isTp]; exact Gc.same (by simp) q)
end
end Lib
set_option Elab.async false
set_option linter.all false
set_option maxRecDepth 100000
set_option maxHeartbeats 2000000
/-! LibH: forests, judged by the program and by the law. -/
namespace Lib
open PySem PySem.Spec PyProof.Rows L2 DN
variable {Xp : EP}
section
variable {Q : PV → Store → Prop} {st : Store} {F : List Pl} {R : List Nat} {x y : Nat} {p f : PV}
/-- rooms as they may be -/
def okR (R : List Nat) : Prop := R.length ≤ 24 ∧ ∀ r ∈ R, r ≤ 4
def okF (R : List Nat) (F : List Pl) : Prop := F.length = R.length ∧ ∀ x, x < F.length → ∀ h, up F x = some h → h.1 < R.length ∧ h.1 ≠ x ∧ h.2 < rm R h.1
theorem okF.wf (h : okF R F) : Wf F := fun p hp => by
  obtain ⟨i, hi, e⟩ := List.mem_iff_getElem.mp hp
  have := h.2 i hi p (by simp [up, hi, e])
  rw [h.1]
  exact this.1
theorem roB_rv (h : okR R) : roB (rv R) = true := by
  simp [roB, rv]
  refine ⟨h.1, fun p hp => ?_⟩
  have := h.2 p hp
  simp [nv, nmB]
  omega
theorem dab_rv {n : Nat} : dab (n + 1) (rv R) = true := by
  cases n <;> simp [rv, dab, nv]
theorem plB_pv {q : Pl} (h : ∀ h, q = some h → h.1 < R.length ∧ h.1 ≠ x ∧ h.2 < rm R h.1) : plB R x (pv q) = true := by
  cases q with
  | none => rfl
  | some g =>
    obtain ⟨h1, h2, h3⟩ := h g rfl
    simp [pv, pp, plB]
    omega
theorem plB_of (h : plB R x p = true) : ∃ q : Pl, p = pv q ∧ ∀ h, q = some h → h.1 < R.length ∧ h.1 ≠ x ∧ h.2 < rm R h.1 := by
  unfold plB at h
  split at h
  · exact ⟨none, rfl, fun _ h => by cases h⟩
  · rename_i a b
    simp only [Bool.and_eq_true, decide_eq_true_eq, Bool.not_eq_true', decide_eq_false_iff_not] at h
    refine ⟨some (a.toNat, b.toNat), ?_, fun g hg => ?_⟩
    · simp only [pv, pp]
      rw [show ((a.toNat : Nat) : Int) = a by omega, show ((b.toNat : Nat) : Int) = b by omega]
    · cases hg
      simp only
      omega
  · cases h
theorem fb_none : ∀ {l : List PV} {i : Nat}, fb R i l = none ↔ ∀ j (h : j < l.length), plB R (i + j) l[j] = true
  | [], i => by simp [fb]
  | p :: l, i => by
    unfold fb
    cases h : plB R i p with
    | true =>
      rw [if_pos rfl, fb_none (l := l)]
      constructor
      · intro z j hj
        cases j with
        | zero => simpa using h
        | succ j => have := z j (by simpa using hj); rw [show i + (j + 1) = i + 1 + j by omega]; simpa using this
      · intro z j hj
        have := z (j + 1) (by simpa using hj)
        rw [show i + 1 + j = i + (j + 1) by omega]; simpa using this
    | false =>
      simp
      refine ⟨0, by omega, ?_⟩
      simpa using h
theorem fb_forest {l : List PV} (h : fb R 0 l = none) (hl : l.length = R.length) : ∃ F, l = F.map pv ∧ okF R F := by
  rw [fb_none] at h
  have key : ∀ (l : List PV) (i : Nat), (∀ j (h : j < l.length), plB R (i + j) l[j] = true) → ∃ F : List Pl, l = F.map pv ∧ ∀ j, j < F.length → ∀ h, up F j = some h → h.1 < R.length ∧ h.1 ≠ i + j ∧ h.2 < rm R h.1 := by
    intro l
    induction l with
    | nil => intro i _; exact ⟨[], rfl, fun j hj => by simp at hj⟩
    | cons p l ih =>
      intro i h
      obtain ⟨F, e, hF⟩ := ih (i + 1) fun j hj => by
        have := h (j + 1) (by simpa using hj)
        rw [show i + 1 + j = i + (j + 1) by omega]; simpa using this
      obtain ⟨q, rfl, hq⟩ := plB_of (x := i) (by simpa using h 0 (by simp))
      refine ⟨q :: F, by simp [e], fun j hj g hg => ?_⟩
      cases j with
      | zero => exact hq g (by simpa [up] using hg)
      | succ j =>
        have := hF j (by simpa using hj) g (by simpa [up] using hg)
        rwa [show i + 1 + j = i + (j + 1) by omega] at this
  obtain ⟨F, e, hF⟩ := key l 0 h
  refine ⟨F, e, by rw [← hl, e]; simp, fun x hx h hh => ?_⟩
  have := hF x hx h hh
  simpa using this
theorem fb_ok (h : okF R F) : fb R 0 (F.map pv) = none := by
  rw [fb_none]
  intro j hj
  have hj' : j < F.length := by simpa using hj
  have e : (F.map pv)[j] = pv (up F j) := by simp [up, hj']
  rw [e]
  exact plB_pv fun g hg => by simpa using h.2 j hj' g hg
theorem fr_none : ∀ {k i : Nat}, fr F k i = none ↔ ∀ j, j < k → inIt F (i + j) = false
  | 0, i => by simp [fr]
  | k + 1, i => by
    unfold fr
    cases h : inIt F i with
    | true =>
      simp
      exact ⟨0, by omega, by simpa using h⟩
    | false =>
      rw [if_neg (by simp), fr_none (k := k)]
      constructor
      · intro z j hj
        cases j with
        | zero => simpa using h
        | succ j => rw [show i + (j + 1) = i + 1 + j by omega]; exact z j (by omega)
      · intro z j hj
        rw [show i + 1 + j = i + (j + 1) by omega]; exact z (j + 1) (by omega)
/-- a forest of these rooms -/
def IsF (R : List Nat) (f : PV) : Prop := ∃ F, f = fv F ∧ okF R F ∧ ∀ x, x < F.length → inIt F x = false
theorem map_pv_inj {F G : List Pl} (h : F.map pv = G.map pv) : F = G := by
  have inj : ∀ a b : Pl, pv a = pv b → a = b := by
    intro a b h
    cases a with
    | none => cases b with
      | none => rfl
      | some b => cases h
    | some a => cases b with
      | none => cases h
      | some b =>
        simp only [pv, pp, PV.tup.injEq, List.cons.injEq, PV.int.injEq, and_true] at h
        obtain ⟨a1, a2⟩ := a
        obtain ⟨b1, b2⟩ := b
        simp only at h
        have h1 : a1 = b1 := by omega
        have h2 : a2 = b2 := by omega
        rw [h1, h2]
  exact (List.map_inj_right inj).mp h
theorem fv_inj {F G : List Pl} (h : fv F = fv G) : F = G := map_pv_inj (by simpa [fv] using h)
theorem isF_iff (h : okF R F) : IsF R (fv F) ↔ fr F F.length 0 = none := by
  rw [fr_none]
  constructor
  · rintro ⟨G, e, _, h2⟩ j hj
    cases fv_inj e
    simpa using h2 j hj
  · exact fun z => ⟨F, rfl, h, fun x hx => by simpa using z x hx⟩
@[simp] theorem isNon_ov {o : Option Nat} : DN.isNon (ov o) = o.isNone := by cases o <;> rfl
theorem clb_len : ∀ (k : Nat) (p : Pl), (clb F k p).length ≤ k
  | 0, _ => by simp [clb]
  | k + 1, none => by simp [clb]
  | k + 1, some h => by simp [clb, clb_len k (up F h.1)]
open Classical in
theorem forest_spec (hR : okR R) (hf : dab 20 f = true) (q : Q (.bl (decide (IsF R f))) st) : (wpX Xp) (is_forest [rv R, f] st) Q := by
  refine wp_fn ?_
  simp
  refine rooms_ok_spec dab_rv ?_
  simp [roB_rv hR]
  have no : ∀ b, b = false → (¬ IsF R f) → Gc st (.bl b) st Q := fun b hb hn => by
    subst hb
    exact Gc.same (by simp) (by simpa [hn] using q)
  cases f with
  | tup l =>
    simp [wp_isTup hf, isTp]
    simp [rv]
    by_cases hl : l.length = R.length
    · simp [hl]
      have hd : ∀ p ∈ l, dab 20 p = true := fun p hp => dab_mono (n := 19) (by omega) (by simp [dab] at hf; exact hf p hp)
      refine first_bad_spec hd ?_
      simp
      cases hb : fb R 0 l with
      | some i =>
        simp
        refine no _ rfl ?_
        rintro ⟨F, e, h, _⟩
        cases e
        rw [fb_ok h] at hb
        cases hb
      | none =>
        obtain ⟨F, rfl, h⟩ := fb_forest hb hl
        simp
        refine first_ring_spec h.wf (by rw [h.1]; exact Nat.le_trans hR.1 (by omega)) ?_
        simp
        refine Gc.same (by simp) ?_
        have e : (fr F F.length 0).isNone = decide (IsF R (fv F)) := by
          rw [Bool.eq_iff_iff, decide_eq_true_eq, isF_iff h, Option.isNone_iff_eq_none]
        rw [e]
        exact q
    · rw [cnd_neg (decide_eq_false (by omega))]
      refine no _ rfl ?_
      rintro ⟨F, e, h, _⟩
      cases e
      exact hl (by simpa using h.1)
  | _ => first | (simp [dab] at hf; done) | (simp [wp_isTup hf, isTp]; exact no _ rfl (by rintro ⟨F, e, _⟩; cases e))
theorem isF_of {l : List PV} (hl : l.length = R.length) (hb : fb R 0 l = none) : ∃ F, l = F.map pv ∧ okF R F ∧ (IsF R (.tup l) ↔ fr F F.length 0 = none) := by
  obtain ⟨F, rfl, h⟩ := fb_forest hb hl
  exact ⟨F, rfl, h, isF_iff h⟩
theorem isF_not {l : List PV} {i : Nat} (hb : fb R 0 l = some i) : ¬ IsF R (.tup l) := by
  rintro ⟨F, e, h, _⟩
  cases e
  rw [fb_ok h] at hb
  cases hb
theorem wp_inInts {l : List Int} {i : Int} : (wpX Xp) (pIn (.int i) (.lst (l.map PV.int)) st) Q = Q (.bl (l.any fun j => decide (j = i))) st := by
  rw [wp_inL (by simp [dpv]) (by simp [dpv])]
  congr 2
  rw [Bool.eq_iff_iff]
  simp
open Classical in
theorem law_forest_spec (hR : okR R) (hf : dab 20 f = true) (q : Q (.bl (decide (IsF R f))) st) : (wpX Xp) (_law_is_forest [rv R, f] st) Q := by
  refine wp_fn ?_
  simp
  have no : ∀ b, b = false → (¬ IsF R f) → Gc st (.bl b) st Q := fun b hb hn => by
    subst hb
    exact Gc.same (by simp) (by simpa [hn] using q)
  cases f with
  | tup l =>
    simp [wp_isTup hf, isTp]
    simp [rv]
    by_cases hl : l.length = R.length
    · simp [hl]
      have hz : R.length ≤ 1000 := Nat.le_trans hR.1 (by omega)
      have hd : ∀ p ∈ l, dab 20 p = true := fun p hp => dab_mono (n := 19) (by omega) (by simp [dab] at hf; exact hf p hp)
      simp [rgN hz]
      refine wps_forRo (fun i σ st' => ∃ k : Nat, i = (k : Int) ∧ k ≤ R.length ∧ σ = [some (rv R), some (.tup l), none, none] ∧ st = st' ∧ fb R 0 l = fb R k (l.drop k)) ?_ ?_ ?_
      · rintro I hI i σ st' ⟨k, rfl, hk, rfl, rfl, e⟩ hi
        have hkl : k < l.length := by omega
        have hd1 := hd l[k] (List.getElem_mem hkl)
        have ha : atI l (k : Int) = some l[k] := by
          have := atI_map (f := id) hkl
          simpa using this
        rw [List.drop_eq_getElem_cons hkl] at e
        generalize l[k] = p at *
        have next : plB R k p = true → I ((k : Int) + 1) [some (rv R), some (.tup l), none, none] st := fun h => hI _ _ _ ⟨k + 1, by omega, by omega, rfl, rfl, by rw [e]; simp [fb, h]⟩
        have bad : plB R k p = false → Gc st (.bl false) st Q := fun h => no _ rfl (isF_not (i := k) (by rw [e]; simp [fb, h]))
        simp [ha]
        cases p with
        | non => simp [wipeA]; exact next rfl
        | tup m =>
          match m with
          | [] => simp [wp_isTup hd1, isTp]; exact bad rfl
          | [a] => simp [wp_isTup hd1, isTp]; exact bad (by cases a <;> rfl)
          | a :: b :: c :: m => simp [wp_isTup hd1, isTp]; rw [cnd_neg (by simp; omega)]; exact bad (by cases a <;> cases b <;> rfl)
          | [a, b] =>
            have ha : dab 20 a = true := dab_mono (n := 19) (by omega) (by simp [dab] at hd1; exact hd1.1)
            have hb : dab 20 b = true := dab_mono (n := 19) (by omega) (by simp [dab] at hd1; exact hd1.2)
            simp [wp_isTup hd1, isTp]
            simp [rv]
            refine number_spec ha ?_
            simp
            cases a with
            | int h =>
              simp [nmB]
              by_cases h0 : 0 ≤ h
              · by_cases h1 : h < R.length
                · simp [h0, h1]
                  by_cases h2 : h = k
                  · simp [h2]
                    exact bad (by cases b <;> simp [plB, h2])
                  · simp [h2, atI_rvI h0 h1]
                    refine number_spec hb ?_
                    cases b with
                    | int r =>
                      simp [nmB]
                      by_cases h3 : 0 ≤ r ∧ r < rm R h.toNat
                      · simp [h3, wipeA]
                        exact next (by simp [plB, h0, h1, h2, h3])
                      · have : (decide (0 ≤ r) && decide (r < ↑(rm R h.toNat))) = false := by simpa using h3
                        simp [this]
                        exact bad (by simp [plB, h0, h1, h2, this])
                    | _ => simp [nmB]; exact bad rfl
                · simp [h0, h1]
                  exact bad (by cases b <;> simp [plB, h0, h1])
              · simp [h0]
                exact bad (by cases b <;> simp [plB, h0])
            | _ => simp [nmB]; exact bad (by cases b <;> rfl)
        | _ => first | (simp [dab] at hd1; done) | (simp [wp_isTup hd1, isTp]; exact bad rfl)
      · rintro i σ st' ⟨k, rfl, hk, rfl, rfl, e⟩ hi
        have : k = R.length := by omega
        subst this
        rw [← hl, List.drop_length] at e
        obtain ⟨F, rfl, h, hF⟩ := isF_of hl e
        simp [wipeA]
        refine ⟨rgN (by rw [h.1]; exact hz), ?_⟩
        refine wps_forRo (fun i σ st' => ∃ k j : Nat, i = (j : Int) ∧ k + j = F.length ∧ σ = [some (rv R), some (fv F), none, none] ∧ st = st' ∧ fr F F.length 0 = fr F k j) ?_ ?_ ?_
        · rintro I hI i σ st' ⟨k, j, rfl, hk, rfl, rfl, e⟩ hi
          obtain ⟨k, rfl⟩ : ∃ m, k = m + 1 := ⟨k - 1, by omega⟩
          simp
          refine climb_spec h.wf (by omega) (by rw [h.1]; exact hz) ?_
          simp
          refine wp_lcA (fun h => .int h.1) _ (fun p hp => by simp [pp, wipeA]) ?_
          have hc : (clb F F.length (up F j)).length ≤ 1000 := Nat.le_trans (clb_len _ _) (by rw [h.1]; exact hz)
          simp
          refine ⟨by omega, ?_⟩
          have eq1 : (clb F F.length (up F j)).map (fun h => PV.int h.1) = ((clb F F.length (up F j)).map fun h => (h.1 : Int)).map PV.int := by simp
          rw [eq1, wp_inInts]
          have eq2 : (((clb F F.length (up F j)).map fun h => (h.1 : Int)).any fun i => decide (i = (j : Int))) = inIt F j := by
            simp only [List.any_map, inIt]
            congr 1
            funext h
            simp only [Function.comp, decide_eq_decide]
            omega
          rw [eq2]
          cases z : inIt F j with
          | true =>
            simp
            refine no _ rfl ?_
            intro hc
            have := hF.mp hc
            rw [e] at this
            simp [fr, z] at this
          | false =>
            simp [wipeA]
            exact hI _ _ _ ⟨k, j + 1, by omega, by omega, rfl, rfl, by rw [e]; simp [fr, z]⟩
        · rintro i σ st' ⟨k, j, rfl, hk, rfl, rfl, e⟩ hi
          have : k = 0 := by omega
          subst this
          try simp [wipeA]
          exact Gc.same (by simp) (by have := hF.mpr (by rw [e]; rfl); simpa [this] using q)
        · exact ⟨F.length, 0, rfl, by omega, rfl, rfl, rfl⟩
      · exact ⟨0, rfl, by omega, rfl, rfl, rfl⟩
    · rw [cnd_neg (decide_eq_false (by omega))]
      refine no _ rfl ?_
      rintro ⟨F, e, h, _⟩
      cases e
      exact hl (by simpa using h.1)
  | _ => first | (simp [dab] at hf; done) | (simp [wp_isTup hf, isTp]; exact no _ rfl (by rintro ⟨F, e, _⟩; cases e))
end
end Lib
set_option Elab.async false
set_option linter.all false
set_option maxRecDepth 100000
set_option maxHeartbeats 2000000
/-! LibI: standings. -/
namespace Lib
open PySem PySem.Spec PyProof.Rows L2 DN
variable {Xp : EP}
section
variable {Q : PV → Store → Prop} {st : Store} {F : List Pl} {R : List Nat} {x y : Nat} {p f : PV}
def noR (F : List Pl) : Prop := ∀ x, x < F.length → inIt F x = false
/-- the climb comes to the floor within k steps -/
def ends (F : List Pl) : Nat → Pl → Prop
  | _, none => True
  | 0, some _ => False
  | k + 1, some h => ends F k (up F h.1)
theorem clb_sub : ∀ {k m : Nat} {p : Pl}, k ≤ m → ∀ h ∈ clb F k p, h ∈ clb F m p
  | 0, _, _, _, _, h => by simp [clb] at h
  | k + 1, 0, _, z, _, _ => by omega
  | k + 1, m + 1, none, _, _, h => by simp [clb] at h
  | k + 1, m + 1, some g, z, a, h => by
    simp only [clb, List.mem_cons] at h ⊢
    exact h.imp id (clb_sub (by omega) a)
theorem nodes_nodup (hw : Wf F) (hn : noR F) : ∀ (k : Nat) (x : Nat), k ≤ F.length → x < F.length → (x :: (clb F k (up F x)).map (·.1)).Nodup
  | 0, x, _, _ => by simp [clb]
  | k + 1, x, hk, hx => by
    cases u : up F x with
    | none => simp [clb]
    | some h =>
      have ih := nodes_nodup hw hn k h.1 (by omega) (hw h (up_mem u))
      simp only [clb, List.map_cons]
      refine List.nodup_cons.mpr ⟨fun hm => ?_, ih⟩
      have := hn x hx
      unfold inIt at this
      rw [List.any_eq_false] at this
      have e : h.1 :: (clb F k (up F h.1)).map (·.1) = (clb F (k + 1) (up F x)).map (·.1) := by rw [u]; simp [clb]
      rw [e] at hm
      obtain ⟨g, hg, eg⟩ := List.mem_map.mp hm
      exact this g (clb_sub hk g hg) (by simpa using eg)
theorem nodup_bound : ∀ (n : Nat) (l : List Nat), l.Nodup → (∀ a ∈ l, a < n) → l.length ≤ n
  | 0, l, _, h => by
    cases l with
    | nil => simp
    | cons a l => exact absurd (h a List.mem_cons_self) (by omega)
  | n + 1, l, hd, h => by
    have h1 := nodup_bound n (l.erase n) (hd.erase n) fun a ha => by
      have h2 := h a (List.mem_of_mem_erase ha)
      have h3 : a ≠ n := fun e => by subst e; exact (hd.not_mem_erase) ha
      omega
    have h4 := List.length_erase_le (a := n) (l := l)
    by_cases hm : n ∈ l
    · rw [List.length_erase_of_mem hm] at h1
      omega
    · rw [List.erase_of_not_mem hm] at h1
      omega
theorem clb_full : ∀ (k : Nat) (p : Pl), ¬ ends F k p → (clb F k p).length = k
  | _, none, h => (h (by simp [ends])).elim
  | 0, some _, _ => by simp [clb]
  | k + 1, some h, z => by
    simp only [clb, List.length_cons, clb_full k (up F h.1) (by simpa [ends] using z)]
theorem clb_lt (hw : Wf F) : ∀ (k : Nat) (p : Pl), (∀ h, p = some h → h.1 < F.length) → ∀ h ∈ clb F k p, h.1 < F.length
  | 0, _, _, _, h => by simp [clb] at h
  | k + 1, none, _, _, h => by simp [clb] at h
  | k + 1, some g, hp, a, h => by
    simp only [clb, List.mem_cons] at h
    rcases h with rfl | h
    · exact hp a rfl
    · exact clb_lt hw k _ (fun h hh => hw h (up_mem hh)) a h
theorem ends_all (hw : Wf F) (hn : noR F) (hx : x < F.length) : ends F F.length (up F x) := by
  refine Classical.byContradiction fun h => ?_
  have h1 := clb_full _ _ h
  have h2 := nodes_nodup hw hn F.length x (Nat.le_refl _) hx
  have h3 := nodup_bound F.length _ h2 fun a ha => by
    rcases List.mem_cons.mp ha with rfl | ha
    · exact hx
    · obtain ⟨g, hg, rfl⟩ := List.mem_map.mp ha
      exact clb_lt hw _ _ (fun h hh => hw h (up_mem hh)) g hg
  simp only [List.length_cons, List.length_map, h1] at h3
  omega
/-- the room of y by which x lies in y -/
def rmw (F : List Pl) (x y : Nat) : Option Nat := ((clb F F.length (up F x)).find? fun h => decide (h.1 = y)).map (·.2)
theorem room_way_spec (hw : Wf F) (hn : noR F) (hx : x < F.length) (q : Q (ov (rmw F x y)) st) : (wpX Xp) (room_way [fv F, .int x, .int y] st) Q := by
  refine wp_fn ?_
  simp [fv, atI_fv hx]
  refine wps_whileO (fun k σ st' => ∃ p, σ = [some (fv F), some (.int x), some (.int y), some (pv p)] ∧ st = st' ∧ ends F k p ∧ (∀ h, p = some h → h.1 < F.length) ∧ rmw F x y = ((clb F k p).find? fun h => decide (h.1 = y)).map (·.2)) ?_ F.length ⟨_, rfl, rfl, ends_all hw hn hx, fun h hh => hw h (up_mem hh), rfl⟩
  rintro I hI k σ st' ⟨p, rfl, rfl, he, hp, e⟩
  cases p with
  | none =>
    simp
    refine Gc.same (by simp) ?_
    have : rmw F x y = none := by rw [e]; cases k <;> simp [clb]
    simpa [this, ov] using q
  | some h =>
    cases k with
    | zero => simp [ends] at he
    | succ k =>
      have hh := hp h rfl
      simp
      simp [pv, pp]
      by_cases z : h.1 = y
      · rw [cnd_pos (decide_eq_true (by omega))]
        refine Gc.same (by simp) ?_
        have : rmw F x y = some h.2 := by rw [e]; simp [clb, z]
        simpa [this, ov] using q
      · rw [cnd_neg (decide_eq_false (by omega))]
        simp [fv, atI_fv hh, wipeA]
        refine ⟨k, by omega, hI _ _ _ ⟨_, rfl, rfl, by simpa [ends] using he, fun g hg => hw g (up_mem hg), ?_⟩⟩
        rw [e]
        simp [clb, z]
theorem standing_in_spec (hw : Wf F) (hn : noR F) (hx : x < F.length) (hy : y < F.length) (q : Q (sv (std F x y)) st) : (wpX Xp) (standing_in [fv F, .int x, .int y] st) Q := by
  refine wp_fn ?_
  simp
  refine room_way_spec hw hn hx ?_
  simp
  cases h : rmw F x y with
  | some r =>
    simp [ov]
    refine Gc.same (by simp) ?_
    unfold rmw at h
    obtain ⟨g, hg, rfl⟩ := Option.map_eq_some_iff.mp h
    simpa [std, hg, sv] using q
  | none =>
    simp
    refine room_way_spec hw hn hy ?_
    simp
    unfold rmw at h
    rw [Option.map_eq_none_iff] at h
    cases h2 : rmw F y x with
    | some r =>
      simp [ov]
      refine Gc.same (by simp) ?_
      unfold rmw at h2
      obtain ⟨g, hg, rfl⟩ := Option.map_eq_some_iff.mp h2
      simpa [std, h, hg, sv] using q
    | none =>
      simp
      unfold rmw at h2
      rw [Option.map_eq_none_iff] at h2
      exact Gc.same (by simp) (by simpa [std, h, h2, sv] using q)
def allS (R : List Nat) (x y : Nat) : List Sd := .ap :: ((List.range (rm R y)).map .inn ++ (List.range (rm R x)).map .aro)
theorem rm_le (hR : okR R) : rm R x ≤ 4 := by
  unfold rm
  cases h : R[x]? with
  | none => simp
  | some r => simpa using hR.2 r (List.mem_of_getElem? h)
theorem every_spec (hR : okR R) (hx : x < R.length) (hy : y < R.length) (q : Q (.lst ((allS R x y).map sv)) st) : (wpX Xp) (_law_every [rv R, .int x, .int y] st) Q := by
  have h1 := rm_le (x := x) hR
  have h2 := rm_le (x := y) hR
  refine wp_fn ?_
  simp [rv, atI_rv hx, atI_rv hy]
  refine ⟨rgN (by omega), ?_⟩
  rw [rgP_nat]
  refine wp_lcA (fun r => sv (.inn r)) _ (fun r _ => by simp [sv, wipeA]) ?_
  simp
  refine ⟨by omega, rgN (by omega), ?_⟩
  rw [rgP_nat]
  refine wp_lcA (fun r => sv (.aro r)) _ (fun r _ => by simp [sv, wipeA]) ?_
  simp
  refine ⟨by omega, by omega, by omega, ?_⟩
  refine Gc.same ?_ ?_
  · simp [cls_iff]
    exact ⟨fun a _ => cl_sv, fun a _ => cl_sv⟩
  · simpa [allS, sv, Function.comp_def] using q
theorem all_standings_spec (hR : okR R) (hx : x < R.length) (hy : y < R.length) (q : Q (.tup ((allS R x y).map sv)) st) : (wpX Xp) (all_standings [rv R, .int x, .int y] st) Q := by
  have h1 := rm_le (x := x) hR
  have h2 := rm_le (x := y) hR
  refine wp_fn ?_
  simp [rv, atI_rv hx, atI_rv hy]
  refine ⟨rgN (by omega), ?_⟩
  rw [rgP_nat]
  refine wp_lcA (fun r => sv (.inn r)) _ (fun r _ => by simp [sv, wipeA]) ?_
  simp
  refine ⟨by omega, by omega, rgN (by omega), ?_⟩
  rw [rgP_nat]
  refine wp_lcA (fun r => sv (.aro r)) _ (fun r _ => by simp [sv, wipeA]) ?_
  simp
  refine ⟨by omega, by omega, ?_⟩
  refine Gc.same ?_ ?_
  · simp [cls_iff]
    exact ⟨fun a _ => cl_sv, fun a _ => cl_sv⟩
  · simpa [allS, sv, Function.comp_def] using q
end
end Lib
set_option Elab.async false
set_option linter.all false
set_option maxRecDepth 100000
set_option maxHeartbeats 2000000
/-! LibJ: sayings, books. -/
namespace Lib
open PySem PySem.Spec PyProof.Rows L2 DN
variable {Xp : EP}
section
variable {Q : PV → Store → Prop} {st : Store} {F : List Pl} {R : List Nat} {x y : Nat} {p f : PV}
theorem nd_inj {α : Type} {l : List α} (h : l.Nodup) {i j : Nat} (hi : i < l.length) (hj : j < l.length) (e : l[i] = l[j]) : i = j := by
  have p := List.pairwise_iff_getElem.mp h
  rcases Nat.lt_trichotomy i j with z | z | z
  · exact absurd e (p i j hi hj z)
  · exact z
  · exact absurd e.symm (p j i hj hi z)
theorem sv_inj {a b : Sd} (h : sv a = sv b) : a = b := by
  cases a <;> cases b <;> simp [sv, Str.ofString] at h <;> first | rfl | (congr 1; omega) | exact absurd h.1 (by decide +kernel)
theorem dpv_sv {s : Sd} {n : Nat} (h : 1 ≤ n) : dpv n (sv s) = true := by
  obtain ⟨m, rfl⟩ : ∃ m, n = m + 1 := ⟨n - 1, by omega⟩
  cases s <;> cases m <;> simp [sv, dpv] <;> decide +kernel
theorem dab_sv {s : Sd} {n : Nat} (h : 1 ≤ n) : dab n (sv s) = true := by
  obtain ⟨m, rfl⟩ : ∃ m, n = m + 1 := ⟨n - 1, by omega⟩
  cases s <;> cases m <;> simp [sv, dab] <;> decide +kernel
theorem mem_sv {s : Sd} {l : List Sd} : sv s ∈ l.map sv ↔ s ∈ l := by
  rw [List.mem_map]
  exact ⟨fun ⟨a, h, e⟩ => sv_inj e ▸ h, fun h => ⟨s, h, rfl⟩⟩
theorem all_sv {l : List Sd} {n : Nat} (h : 1 ≤ n) : (l.map sv).all (dpv n) = true := by
  rw [List.all_eq_true]
  intro p hp
  obtain ⟨s, _, rfl⟩ := List.mem_map.mp hp
  exact dpv_sv h
theorem wp_inSvT {s : Sd} {L : List Sd} : (wpX Xp) (pIn (sv s) (.tup (L.map sv)) st) Q = Q (.bl (decide (s ∈ L))) st := by
  rw [wp_inT (dpv_sv (by omega)) (all_sv (by omega))]
  congr 2
  rw [decide_eq_decide]
  exact mem_sv
theorem wp_inSvL {s : Sd} {L : List Sd} : (wpX Xp) (pIn (sv s) (.lst (L.map sv)) st) Q = Q (.bl (decide (s ∈ L))) st := by
  rw [wp_inL (dpv_sv (by omega)) (all_sv (by omega))]
  congr 2
  rw [decide_eq_decide]
  exact mem_sv
theorem wp_notInSvT {s : Sd} {L : List Sd} : (wpX Xp) (pNotIn (sv s) (.tup (L.map sv)) st) Q = Q (.bl (!decide (s ∈ L))) st := by
  rw [wp_notInT (dpv_sv (by omega)) (all_sv (by omega))]
  congr 3
  rw [decide_eq_decide]
  exact mem_sv
theorem wp_notInSvL {s : Sd} {L : List Sd} : (wpX Xp) (pNotIn (sv s) (.lst (L.map sv)) st) Q = Q (.bl (!decide (s ∈ L))) st := by
  rw [wp_notInL (dpv_sv (by omega)) (all_sv (by omega))]
  congr 3
  rw [decide_eq_decide]
  exact mem_sv
theorem allS_nodup : (allS R x y).Nodup := by
  unfold allS
  refine List.nodup_cons.mpr ⟨by simp, ?_⟩
  rw [List.nodup_append]
  refine ⟨?_, ?_, ?_⟩
  · rw [List.nodup_iff_pairwise_ne, List.pairwise_map]
    exact (List.nodup_iff_pairwise_ne.mp List.nodup_range).imp fun h e => h (by injection e)
  · rw [List.nodup_iff_pairwise_ne, List.pairwise_map]
    exact (List.nodup_iff_pairwise_ne.mp List.nodup_range).imp fun h e => h (by injection e)
  · rintro a ha b hb rfl
    obtain ⟨_, _, rfl⟩ := List.mem_map.mp ha
    obtain ⟨_, _, e⟩ := List.mem_map.mp hb
    cases e
/-- a tuple of a text and a number -/
def isSI : PV → Bool
  | .tup [.str _, .int _] => true
  | _ => false
open Classical in
theorem is_standing_spec (hR : okR R) (hx : x < R.length) (hy : y < R.length) (hp : dab 20 p = true) (q : Q (.bl (decide (p ∈ (allS R x y).map sv))) st) : (wpX Xp) (is_standing [rv R, .int x, .int y, p] st) Q := by
  refine wp_fn ?_
  have no : ∀ b, b = false → (isSI p = false) → Gc st (.bl b) st Q := fun b hb hn => by
    subst hb
    refine Gc.same (by simp) ?_
    have : ¬ p ∈ (allS R x y).map sv := fun h => by
      obtain ⟨s, _, rfl⟩ := List.mem_map.mp h
      cases s <;> cases hn
    simpa [this] using q
  cases p with
  | tup l =>
    match l with
    | [] => simp [wp_isTup hp, isTp]; exact no _ rfl rfl
    | [a] => simp [wp_isTup hp, isTp]; exact no _ rfl (by cases a <;> rfl)
    | a :: b :: c :: l => simp [wp_isTup hp, isTp]; rw [cnd_neg (by simp; omega)]; exact no _ rfl (by cases a <;> cases b <;> rfl)
    | [a, b] =>
      have ha : dab 20 a = true := dab_mono (n := 19) (by omega) (by simp [dab] at hp; exact hp.1)
      have hb : dab 20 b = true := dab_mono (n := 19) (by omega) (by simp [dab] at hp; exact hp.2)
      simp [wp_isTup hp, isTp, wp_isStr ha]
      cases a with
      | str z =>
        simp [isSt]
        refine whole_spec hb ?_
        simp
        cases b with
        | int r =>
          simp [isWh]
          refine all_standings_spec hR hx hy ?_
          have hd : dpv 63 (.tup [.str z, .int r]) = true := by simpa [dpv, dab] using ha
          rw [wp_inT hd (all_sv (by omega))]
          refine Gc.same (by simp) ?_
          exact q
        | _ => simp [isWh]; exact no _ rfl rfl
      | _ => simp [isSt]; exact no _ rfl rfl
  | _ => first | (simp [dab] at hp; done) | (simp [wp_isTup hp, isTp]; exact no _ rfl rfl)
theorem idxD_at {n : Nat} : ∀ {l : List PV} {ds : List PyData} {d : PyData} {y : PV} {j : Nat}, dpv n y = true → toD0 y = some d → l.all (dpv n) = true → toD0s l = some ds → l[j]? = some y → (∀ i, i < j → l[i]? ≠ some y) → idxD d ds = some j
  | [], _, _, _, _, _, _, _, _, h, _ => by simp at h
  | p :: l, ds, d, y, j, hy, hd, h, e, hj, hn => by
    simp only [toD0s] at e
    obtain ⟨d', a1, e⟩ := Option.bind_eq_some_iff.mp e
    obtain ⟨ds', a2, rfl⟩ := Option.map_eq_some_iff.mp e
    simp only [List.all_cons, Bool.and_eq_true] at h
    unfold idxD
    cases j with
    | zero =>
      simp only [List.getElem?_cons_zero, Option.some.injEq] at hj
      rw [if_pos ((eqv_dpv h.1 hy a1 hd).mpr hj)]
    | succ j =>
      have h0 := hn 0 (by omega)
      simp only [List.getElem?_cons_zero, ne_eq, Option.some.injEq] at h0
      rw [if_neg (fun z => h0 ((eqv_dpv h.1 hy a1 hd).mp z))]
      have ih := idxD_at (l := l) (j := j) hy hd h.2 a2 (by simpa using hj) fun i hi => by simpa using hn (i + 1) (by omega)
      rw [ih]
      rfl
theorem wp_indexT {l : List PV} {j : Nat} (hl : l.all (dpv 20) = true) (hy : dpv 20 y' = true) (hj : l[j]? = some y') (hn : ∀ i, i < j → l[i]? ≠ some y') (q : Q (.int j) st) : (wpX Xp) (mIndexT (.tup l) [y'] st) Q := by
  obtain ⟨d, e1, c1, z1⟩ := dpv_d 20 y' hy
  have hl' : dpv 21 (.tup l) = true := by simpa [dpv] using hl
  obtain ⟨e, e2, c2, z2⟩ := dpv_d 21 _ hl'
  simp only [toD0] at e2
  obtain ⟨ds, e3, rfl⟩ := Option.map_eq_some_iff.mp e2
  have t1 : toD y' st = some d := by cases y' <;> first | exact e1 | (simp [dpv] at hy)
  have t2 : toD (.tup l) st = some (.tuple ds) := by simp [toD, toD0, e3]
  have s1 := shaped_of c1 (by omega)
  have s2 := shaped_of c2 (by omega)
  simp only [mIndexT, t1, t2, s1, s2, and_self, if_true, idxD_at hy e1 hl e3 hj hn]
  exact wp_ok.mpr q
/-- a right lot of standings of two things -/
def IsL (R : List Nat) (x y : Nat) (p : PV) : Prop := ∃ L : List Sd, p = .tup (L.map sv) ∧ L.Sublist (allS R x y)
theorem sub_drop {l L : List Sd} {s : Sd} {b i : Nat} (hn : l.Nodup) (hi : l[i]? = some s) (hb : b ≤ i) : (s :: L).Sublist (l.drop b) ↔ L.Sublist (l.drop (i + 1)) := by
  have hil : i < l.length := (List.getElem?_eq_some_iff.mp hi).1
  have hsi : l[i] = s := (List.getElem?_eq_some_iff.mp hi).2
  constructor
  · intro h
    obtain ⟨r1, r2, e, h1, h2⟩ := List.cons_sublist_iff.mp h
    have e2 : l.drop b = (l.drop b).take (i + 1 - b) ++ l.drop (i + 1) := by
      conv => lhs; rw [← List.take_append_drop (i + 1 - b) (l.drop b)]
      rw [List.drop_drop, show b + (i + 1 - b) = i + 1 by omega]
    obtain ⟨k, hk, ek⟩ := List.mem_iff_getElem.mp h1
    have hr : r1.length ≤ (l.drop b).length := by rw [e]; simp
    have : (l.drop b)[k]? = some s := by rw [e, List.getElem?_append_left hk, List.getElem?_eq_getElem hk, ek]
    rw [List.getElem?_drop] at this
    have hbk : b + k < l.length := (List.getElem?_eq_some_iff.mp this).1
    have hbk2 : l[b + k] = s := (List.getElem?_eq_some_iff.mp this).2
    have : b + k = i := nd_inj hn _ _ (hbk2.trans hsi.symm)
    have e3 : l.drop (i + 1) = (r1 ++ r2).drop (k + 1) := by rw [← e, List.drop_drop, show b + (k + 1) = i + 1 by omega]
    rw [e3, List.drop_append]
    exact h2.trans (by rw [show k + 1 - r1.length = 0 by omega]; simp)
  · intro h
    have e : l.drop b = (l.drop b).take (i - b) ++ (s :: l.drop (i + 1)) := by
      conv => lhs; rw [← List.take_append_drop (i - b) (l.drop b)]
      rw [List.drop_drop, show b + (i - b) = i by omega, List.drop_eq_getElem_cons hil, hsi]
    rw [e]
    exact List.Sublist.trans (h.cons₂ s) (List.sublist_append_right _ _)
theorem not_sub_drop {l L : List Sd} {s : Sd} {b i : Nat} (hn : l.Nodup) (hi : l[i]? = some s) (hb : i < b) : ¬ (s :: L).Sublist (l.drop b) := by
  intro h
  have hil : i < l.length := (List.getElem?_eq_some_iff.mp hi).1
  have hsi : l[i] = s := (List.getElem?_eq_some_iff.mp hi).2
  have hm : s ∈ l.drop b := h.subset List.mem_cons_self
  obtain ⟨k, hk⟩ := List.mem_iff_getElem?.mp hm
  rw [List.getElem?_drop] at hk
  have hbk : b + k < l.length := (List.getElem?_eq_some_iff.mp hk).1
  have hbk2 : l[b + k] = s := (List.getElem?_eq_some_iff.mp hk).2
  have := nd_inj hn _ _ (hbk2.trans hsi.symm)
  omega
open Classical in
theorem lets_spec (hR : okR R) (hx : x < R.length) (hy : y < R.length) (hp : dab 20 p = true) (q : Q (.bl (decide (IsL R x y p))) st) : (wpX Xp) (is_lets [rv R, .int x, .int y, p] st) Q := by
  refine wp_fn ?_
  have no : ∀ b, b = false → (¬ IsL R x y p) → Gc st (.bl b) st Q := fun b hb hn => by
    subst hb
    exact Gc.same (by simp) (by simpa [hn] using q)
  cases p with
  | tup l =>
    have hd : ∀ p ∈ l, dab 20 p = true := fun p h => dab_mono (n := 19) (by omega) (by simp [dab] at hp; exact hp p h)
    simp [wp_isTup hp, isTp]
    refine all_standings_spec hR hx hy ?_
    try simp
    refine wps_forLo (fun r σ st' => ∃ b : Nat, σ = [some (rv R), some (.int x), some (.int y), some (.tup l), some (.tup ((allS R x y).map sv)), some (.int ((b : Int) - 1)), none, none] ∧ st = st' ∧ (∀ p ∈ r, p ∈ l) ∧ (IsL R x y (.tup l) ↔ ∃ L : List Sd, r = L.map sv ∧ L.Sublist ((allS R x y).drop b))) _ ?_ ?_ ⟨0, rfl, rfl, fun p h => h, ?_⟩
    · rintro I hI p r σ st' ⟨b, rfl, rfl, hm, e⟩
      simp
      refine is_standing_spec hR hx hy (hd p (hm p List.mem_cons_self)) ?_
      simp
      by_cases hs : p ∈ (allS R x y).map sv
      · obtain ⟨s, hs', rfl⟩ := List.mem_map.mp hs
        obtain ⟨i, hi, ei⟩ := List.mem_iff_getElem.mp hs'
        have hi' : (allS R x y)[i]? = some s := by rw [List.getElem?_eq_getElem hi, ei]
        rw [cnd_pos (by simpa using ⟨s, hs', rfl⟩)]
        refine ⟨by simp [isT, isF, isW, allS, sv], ?_⟩
        refine wp_indexT (j := i) (all_sv (by omega)) (dpv_sv (by omega)) (by rw [List.getElem?_map, hi']; rfl) (fun k hk hz => ?_) ?_
        · rw [List.getElem?_map] at hz
          obtain ⟨s', h1, h2⟩ := Option.map_eq_some_iff.mp hz
          have := sv_inj h2
          subst this
          have hkl := (List.getElem?_eq_some_iff.mp h1).1
          have := nd_inj (allS_nodup (R := R) (x := x) (y := y)) _ _ ((List.getElem?_eq_some_iff.mp h1).2.trans ei.symm)
          omega
        · simp
          by_cases hb : i < b
          · rw [cnd_pos (decide_eq_true (by omega))]
            refine no _ rfl ?_
            rw [e]
            rintro ⟨L, hL, h⟩
            cases L with
            | nil => cases hL
            | cons s' L =>
              simp only [List.map_cons, List.cons.injEq] at hL
              have := sv_inj hL.1
              subst this
              exact not_sub_drop allS_nodup hi' hb h
          · rw [cnd_neg (decide_eq_false (by omega))]
            simp [wipeA]
            refine hI _ _ _ ⟨i + 1, by simp, rfl, fun p h => hm p (List.mem_cons_of_mem _ h), ?_⟩
            rw [e]
            constructor
            · rintro ⟨L, hL, h⟩
              cases L with
              | nil => cases hL
              | cons s' L =>
                simp only [List.map_cons, List.cons.injEq] at hL
                have := sv_inj hL.1
                subst this
                exact ⟨L, hL.2, (sub_drop allS_nodup hi' (by omega)).mp h⟩
            · rintro ⟨L, rfl, h⟩
              exact ⟨s :: L, rfl, (sub_drop allS_nodup hi' (by omega)).mpr h⟩
      · rw [cnd_neg (by simpa using hs)]
        refine no _ rfl ?_
        rw [e]
        rintro ⟨L, hL, h⟩
        cases L with
        | nil => cases hL
        | cons s L =>
          simp only [List.map_cons, List.cons.injEq] at hL
          rw [hL.1] at hs
          exact hs (mem_sv.mpr (List.drop_subset _ _ (h.subset List.mem_cons_self)))
    · rintro σ st' ⟨b, rfl, rfl, hm, e⟩
      try simp [wipeA]
      refine Gc.same (by simp) ?_
      have : IsL R x y (.tup l) := e.mpr ⟨[], rfl, by simp⟩
      simpa [this] using q
    · unfold IsL
      simp
  | _ => first | (simp [dab] at hp; done) | (simp [wp_isTup hp, isTp]; exact no _ rfl (by rintro ⟨L, e, _⟩; cases e))
end
end Lib
set_option Elab.async false
set_option linter.all false
set_option maxRecDepth 100000
set_option maxHeartbeats 2000000
/-! LibK: sayings, books. -/
namespace Lib
open PySem PySem.Spec PyProof.Rows L2 DN
variable {Xp : EP}
section
variable {Q : PV → Store → Prop} {st : Store} {F : List Pl} {R : List Nat} {x y : Nat} {p f : PV}
theorem thing_spec (hp : dab 20 p = true) (q : Q (.bl (nmB R.length p)) st) : (wpX Xp) (is_thing [rv R, p] st) Q := by
  refine wp_fn ?_
  simp
  refine whole_spec hp ?_
  simp
  cases p with
  | int i =>
    simp [isWh, rv]
    by_cases h : 0 ≤ i
    · simp [h]
      exact Gc.same (by simp) (by simpa [nmB, h] using q)
    · simp [h]
      exact Gc.same (by simp) (by simpa [nmB, h] using q)
  | _ => simp [isWh]; exact Gc.same (by simp) q
structure Sy where
  x : Nat
  y : Nat
  lot : List Sd
def syv (s : Sy) : PV := .tup [.int s.x, .int s.y, .tup (s.lot.map sv)]
def okSy (R : List Nat) (s : Sy) : Prop := s.x < R.length ∧ s.y < R.length ∧ s.x ≠ s.y ∧ s.lot.Sublist (allS R s.x s.y)
def IsSy (R : List Nat) (p : PV) : Prop := ∃ s, p = syv s ∧ okSy R s
theorem dab_one {n : Nat} {l : List PV} (h : dab (n + 1) (.tup l) = true) {p : PV} (hp : p ∈ l) : dab n p = true := by
  simp only [dab, List.all_eq_true] at h
  exact h p hp
open Classical in
theorem says_spec (hR : okR R) (hp : dab 20 p = true) (q : Q (.bl (decide (IsSy R p))) st) : (wpX Xp) (says_right [rv R, p] st) Q := by
  refine wp_fn ?_
  have no : ∀ b, b = false → (¬ IsSy R p) → Gc st (.bl b) st Q := fun b hb hn => by
    subst hb
    exact Gc.same (by simp) (by simpa [hn] using q)
  cases p with
  | tup l =>
    match l with
    | [] => simp [wp_isTup hp, isTp]; exact no _ rfl (by rintro ⟨s, e, _⟩; cases e)
    | [a] => simp [wp_isTup hp, isTp]; exact no _ rfl (by rintro ⟨s, e, _⟩; cases e)
    | [a, b] => simp [wp_isTup hp, isTp]; exact no _ rfl (by rintro ⟨s, e, _⟩; cases e)
    | a :: b :: c :: d :: l => simp [wp_isTup hp, isTp]; rw [cnd_neg (by simp; omega)]; exact no _ rfl (by rintro ⟨s, e, _⟩; cases e)
    | [a, b, c] =>
      have ha : dab 20 a = true := dab_mono (n := 19) (by omega) (dab_one hp (by simp))
      have hb : dab 20 b = true := dab_mono (n := 19) (by omega) (dab_one hp (by simp))
      have hc : dab 20 c = true := dab_mono (n := 19) (by omega) (dab_one hp (by simp))
      simp [wp_isTup hp, isTp]
      refine thing_spec ha ?_
      simp
      cases h1 : nmB R.length a with
      | false =>
        simp
        refine no _ rfl ?_
        rintro ⟨s, e, h⟩
        cases e
        have := h.1
        simp [nmB] at h1
        omega
      | true =>
        simp
        refine thing_spec hb ?_
        simp
        cases h2 : nmB R.length b with
        | false =>
          simp
          refine no _ rfl ?_
          rintro ⟨s, e, h⟩
          cases e
          have := h.2.1
          simp [nmB] at h2
          omega
        | true =>
          cases a <;> simp [nmB] at h1
          rename_i i
          cases b <;> simp [nmB] at h2
          rename_i j
          simp
          obtain ⟨x, rfl⟩ : ∃ x : Nat, i = x := ⟨i.toNat, by omega⟩
          obtain ⟨y, rfl⟩ : ∃ y : Nat, j = y := ⟨j.toNat, by omega⟩
          by_cases h3 : x = y
          · rw [cnd_pos (decide_eq_true (by omega))]
            refine no _ rfl ?_
            rintro ⟨s, e, h⟩
            simp [syv] at e
            exact h.2.2.1 (by omega)
          · rw [cnd_neg (decide_eq_false (by omega))]
            refine lets_spec hR (by omega) (by omega) hc ?_
            refine Gc.same (by simp) ?_
            have e : decide (IsL R x y c) = decide (IsSy R (.tup [.int x, .int y, c])) := by
              rw [decide_eq_decide]
              constructor
              · rintro ⟨L, rfl, h⟩
                exact ⟨⟨x, y, L⟩, rfl, by show x < _; omega, by show y < _; omega, h3, h⟩
              · rintro ⟨s, e, h⟩
                simp [syv] at e
                obtain ⟨e1, e2, e3⟩ := e
                have e1 : s.x = x := by omega
                have e2 : s.y = y := by omega
                refine ⟨s.lot, e3, ?_⟩
                have := h.2.2.2
                rwa [e1, e2] at this
            rw [e]
            exact q
  | _ => first | (simp [dab] at hp; done) | (simp [wp_isTup hp, isTp]; exact no _ rfl (by rintro ⟨s, e, _⟩; cases e))
open Classical in
/-- the first saying that is none -/
noncomputable def fw (R : List Nat) : Nat → List PV → Option Nat
  | _, [] => none
  | i, p :: r => if IsSy R p then fw R (i + 1) r else some i
open Classical in
theorem first_wrong_spec {l : List PV} (hR : okR R) (hl : ∀ p ∈ l, dab 20 p = true) (q : Q (ov (fw R 0 l)) st) : (wpX Xp) (first_wrong [rv R, .tup l] st) Q := by
  refine wp_fn ?_
  simp
  refine wps_forLo (fun m σ st' => ∃ i r, m = DN.numbered i r ∧ σ = [some (rv R), some (.tup l), none, none] ∧ st = st' ∧ (∀ p ∈ r, p ∈ l) ∧ fw R 0 l = fw R i r) _ ?_ ?_ ⟨0, l, rfl, rfl, rfl, fun _ h => h, rfl⟩
  · rintro I hI p m σ st' ⟨i, r, e, rfl, rfl, hm, e2⟩
    cases r with
    | nil => cases e
    | cons a r =>
      simp only [DN.numbered, List.cons.injEq] at e
      obtain ⟨rfl, rfl⟩ := e
      simp
      refine says_spec hR (hl _ (hm _ List.mem_cons_self)) ?_
      simp
      by_cases h : IsSy R a
      · rw [cnd_pos (decide_eq_true h)]
        simp [wipeA]
        exact hI _ _ _ ⟨_, _, rfl, rfl, rfl, fun p hp => hm p (List.mem_cons_of_mem _ hp), by rw [e2]; simp [fw, h]⟩
      · rw [cnd_neg (decide_eq_false h)]
        exact Gc.same (by simp) (by simpa [e2, fw, h, ov] using q)
  · rintro σ st' ⟨i, r, e, rfl, rfl, hm, e2⟩
    cases r with
    | nil =>
      try simp [wipeA]
      exact Gc.same (by simp) (by simpa [e2, fw, ov] using q)
    | cons a r => cases e
theorem fw_none : ∀ {l : List PV} {i : Nat}, fw R i l = none ↔ ∃ S : List Sy, l = S.map syv ∧ ∀ s ∈ S, okSy R s
  | [], i => by simp [fw]
  | p :: l, i => by
    unfold fw
    by_cases h : IsSy R p
    · rw [if_pos h, fw_none (l := l)]
      constructor
      · rintro ⟨S, rfl, hS⟩
        obtain ⟨s, rfl, hs⟩ := h
        exact ⟨s :: S, rfl, by simpa using ⟨hs, hS⟩⟩
      · rintro ⟨S, e, hS⟩
        cases S with
        | nil => cases e
        | cons s S =>
          simp only [List.map_cons, List.cons.injEq] at e
          exact ⟨S, e.2, fun s hs => hS s (List.mem_cons_of_mem _ hs)⟩
    · rw [if_neg h]
      simp
      rintro S e
      cases S with
      | nil => cases e
      | cons s S =>
        simp only [List.map_cons, List.cons.injEq] at e
        exact ⟨s, List.mem_cons_self, fun hs => h ⟨s, e.1, hs⟩⟩
def bv (R : List Nat) (S : List Sy) : PV := .tup [rv R, .tup (S.map syv)]
def okB (R : List Nat) (S : List Sy) : Prop := okR R ∧ S.length ≤ 400 ∧ ∀ s ∈ S, okSy R s
def IsB (p : PV) : Prop := ∃ R S, p = bv R S ∧ okB R S
def pairB : PV → Bool
  | .tup [_, _] => true
  | _ => false
theorem pair_spec (hp : dab 20 p = true) (q : Q (.bl (pairB p)) st) : (wpX Xp) (is_pair [p] st) Q := by
  refine wp_fn ?_
  simp
  cases p with
  | tup l =>
    match l with
    | [] => simp [wp_isTup hp, isTp]; exact Gc.same (by simp) q
    | [a] => simp [wp_isTup hp, isTp]; exact Gc.same (by simp) q
    | [a, b] => simp [wp_isTup hp, isTp]; exact Gc.same (by simp) q
    | a :: b :: c :: l =>
      simp [wp_isTup hp, isTp]
      refine Gc.same (by simp) ?_
      rw [decide_eq_false (by omega)]
      exact q
  | _ => first | (simp [dab] at hp; done) | (simp [wp_isTup hp, isTp]; exact Gc.same (by simp) q)
theorem roB_of (h : roB p = true) : ∃ R, p = rv R ∧ okR R := by
  cases p with
  | tup l =>
    simp [roB] at h
    obtain ⟨h1, h2⟩ := h
    have key : ∀ l : List PV, (∀ p ∈ l, nmB 5 p = true) → ∃ R : List Nat, l = R.map nv ∧ ∀ r ∈ R, r ≤ 4 := by
      intro l
      induction l with
      | nil => exact fun _ => ⟨[], rfl, by simp⟩
      | cons p l ih =>
        intro h
        obtain ⟨R, rfl, hR⟩ := ih fun q hq => h q (List.mem_cons_of_mem _ hq)
        have := h p List.mem_cons_self
        cases p <;> simp [nmB] at this
        rename_i i
        refine ⟨i.toNat :: R, ?_, ?_⟩
        · simp [nv]; omega
        · simp only [List.mem_cons, forall_eq_or_imp]
          exact ⟨by omega, hR⟩
    obtain ⟨R, rfl, hR⟩ := key l h2
    exact ⟨R, rfl, by simpa using h1, hR⟩
  | _ => simp [roB] at h
theorem rv_inj {R R' : List Nat} (h : rv R = rv R') : R = R' := by
  simp only [rv, PV.tup.injEq] at h
  exact (List.map_inj_right (fun a b h => by simp only [nv, PV.int.injEq] at h; omega)).mp h
open Classical in
theorem is_book_spec (hp : dab 20 p = true) (q : Q (.bl (decide (IsB p))) st) : (wpX Xp) (is_book [p] st) Q := by
  refine wp_fn ?_
  have no : ∀ b, b = false → (¬ IsB p) → Gc st (.bl b) st Q := fun b hb hn => by
    subst hb
    exact Gc.same (by simp) (by simpa [hn] using q)
  simp
  refine pair_spec hp ?_
  simp
  by_cases hpr : ∃ a b, p = .tup [a, b]
  · obtain ⟨a, b, rfl⟩ := hpr
    rw [cnd_pos (show pairB (.tup [a, b]) = true from rfl)]
    have ha : dab 20 a = true := dab_mono (n := 19) (by omega) (dab_one hp (by simp))
    have hb : dab 20 b = true := dab_mono (n := 19) (by omega) (dab_one hp (by simp))
    simp
    refine rooms_ok_spec ha ?_
    simp
    cases h : roB a with
    | false =>
      simp
      refine no _ rfl ?_
      rintro ⟨R, S, e, hh⟩
      simp [bv] at e
      rw [e.1, roB_rv hh.1] at h
      cases h
    | true =>
      obtain ⟨R, rfl, hR⟩ := roB_of h
      simp [wp_isTup hb]
      cases b with
      | tup l =>
        have hl : ∀ p ∈ l, dab 20 p = true := fun p hp' => dab_mono (n := 19) (by omega) (dab_one hb hp')
        simp [isTp]
        by_cases h1 : l.length ≤ 400
        · rw [cnd_pos (decide_eq_true (by omega))]
          refine first_wrong_spec hR hl ?_
          simp
          refine Gc.same (by simp) ?_
          have e : (fw R 0 l).isNone = decide (IsB (.tup [rv R, .tup l])) := by
            rw [Bool.eq_iff_iff, decide_eq_true_eq, Option.isNone_iff_eq_none, fw_none]
            constructor
            · rintro ⟨S, rfl, hS⟩
              exact ⟨R, S, rfl, hR, by simpa using h1, hS⟩
            · rintro ⟨R', S, e, hh⟩
              simp only [bv, PV.tup.injEq, List.cons.injEq, and_true] at e
              have := rv_inj e.1
              subst this
              exact ⟨S, e.2, hh.2.2⟩
          rw [e]
          exact q
        · rw [cnd_neg (decide_eq_false (by omega))]
          refine no _ rfl ?_
          rintro ⟨R', S, e, hh⟩
          simp only [bv, PV.tup.injEq, List.cons.injEq, and_true] at e
          have := hh.2.1
          rw [e.2] at h1
          simp at h1
          omega
      | _ => first | (simp [dab] at hb; done) | (simp [isTp]; exact no _ rfl (by rintro ⟨R', S, e, hh⟩; simp [bv] at e))
  · have : pairB p = false := by
      unfold pairB
      split
      · exact absurd ⟨_, _, rfl⟩ hpr
      · rfl
    rw [cnd_neg this]
    refine no _ rfl ?_
    rintro ⟨R, S, rfl, hh⟩
    exact hpr ⟨_, _, rfl⟩
/-- the first saying that does not hold -/
def fk (F : List Pl) : Nat → List Sy → Option Nat
  | _, [] => none
  | i, s :: r => if std F s.x s.y ∈ s.lot then fk F (i + 1) r else some i
theorem fk_none : ∀ {S : List Sy} {i : Nat}, fk F i S = none ↔ ∀ s ∈ S, std F s.x s.y ∈ s.lot
  | [], i => by simp [fk]
  | s :: S, i => by
    unfold fk
    by_cases h : std F s.x s.y ∈ s.lot
    · rw [if_pos h, fk_none (S := S)]
      simp [h]
    · rw [if_neg h]
      simp [h]
theorem first_broken_spec {S : List Sy} (hB : okB R S) (hF : okF R F) (hn : noR F) (q : Q (ov (fk F 0 S)) st) : (wpX Xp) (first_broken [bv R S, fv F] st) Q := by
  refine wp_fn ?_
  simp [bv]
  refine wps_forLo (fun m σ st' => ∃ i r, m = DN.numbered i (r.map syv) ∧ σ = [some (bv R S), some (fv F), none, none, none, none] ∧ st = st' ∧ (∀ p ∈ r, p ∈ S) ∧ fk F 0 S = fk F i r) _ ?_ ?_ ⟨0, S, rfl, rfl, rfl, fun _ h => h, rfl⟩
  · rintro I hI p m σ st' ⟨i, r, e, rfl, rfl, hm, e2⟩
    cases r with
    | nil => cases e
    | cons s r =>
      simp only [List.map_cons, DN.numbered, List.cons.injEq] at e
      obtain ⟨rfl, rfl⟩ := e
      have hs := hB.2.2 s (hm s List.mem_cons_self)
      simp [syv]
      refine standing_in_spec hF.wf hn (by rw [hF.1]; exact hs.1) (by rw [hF.1]; exact hs.2.1) ?_
      rw [wp_notInSvT]
      simp
      by_cases h : std F s.x s.y ∈ s.lot
      · rw [cnd_pos (decide_eq_true h)]
        simp [wipeA]
        exact hI _ _ _ ⟨_, _, rfl, rfl, rfl, fun p hp => hm p (List.mem_cons_of_mem _ hp), by rw [e2]; simp [fk, h]⟩
      · rw [cnd_neg (decide_eq_false h)]
        exact Gc.same (by simp) (by simpa [e2, fk, h, ov] using q)
  · rintro σ st' ⟨i, r, e, rfl, rfl, hm, e2⟩
    cases r with
    | nil =>
      try simp [wipeA]
      exact Gc.same (by simp) (by simpa [e2, fk, ov] using q)
    | cons a r => cases e
/-- the book is kept by the forest -/
def Keeps (b f : PV) : Prop := ∃ R S F, b = bv R S ∧ f = fv F ∧ okB R S ∧ okF R F ∧ noR F ∧ ∀ s ∈ S, std F s.x s.y ∈ s.lot
open Classical in
theorem keeps_spec {b : PV} (hb : dab 20 b = true) (hf : dab 20 f = true) (q : Q (.bl (decide (Keeps b f))) st) : (wpX Xp) (keeps [b, f] st) Q := by
  refine wp_fn ?_
  have no : ∀ c, c = false → (¬ Keeps b f) → Gc st (.bl c) st Q := fun c hb hn => by
    subst hb
    exact Gc.same (by simp) (by simpa [hn] using q)
  simp
  refine is_book_spec hb ?_
  simp
  by_cases h : IsB b
  · rw [cnd_pos (decide_eq_true h)]
    obtain ⟨R, S, rfl, hB⟩ := h
    simp [bv]
    refine forest_spec hB.1 hf ?_
    simp
    by_cases h2 : IsF R f
    · rw [cnd_pos (decide_eq_true h2)]
      obtain ⟨F, rfl, hF, hn⟩ := h2
      refine first_broken_spec hB hF hn ?_
      simp
      refine Gc.same (by simp) ?_
      have e : (fk F 0 S).isNone = decide (Keeps (bv R S) (fv F)) := by
        rw [Bool.eq_iff_iff, decide_eq_true_eq, Option.isNone_iff_eq_none, fk_none]
        constructor
        · exact fun z => ⟨R, S, F, rfl, rfl, hB, hF, hn, z⟩
        · rintro ⟨R', S', F', e1, e2, h1, h2, h3, h4⟩
          cases fv_inj e2
          simp only [bv, PV.tup.injEq, List.cons.injEq, and_true] at e1
          have e3 : S = S' := (List.map_inj_right (fun a b h => by
            simp only [syv, PV.tup.injEq, List.cons.injEq, and_true, PV.int.injEq] at h
            obtain ⟨a1, a2, a3⟩ := h
            have a3 := (List.map_inj_right (fun _ _ => sv_inj)).mp a3
            obtain ⟨ax, ay, al⟩ := a
            obtain ⟨bx, bY, bl⟩ := b
            simp only at a1 a2 a3
            have a1 : ax = bx := by omega
            have a2 : ay = bY := by omega
            rw [a1, a2, a3])).mp e1.2
          subst e3
          exact h4
      rw [e]
      exact q
    · rw [cnd_neg (decide_eq_false h2)]
      refine no _ rfl ?_
      rintro ⟨R', S', F', e1, e2, h1, h2', h3, h4⟩
      simp only [bv, PV.tup.injEq, List.cons.injEq, and_true] at e1
      have := rv_inj e1.1
      subst this
      exact h2 ⟨F', e2, h2', h3⟩
  · rw [cnd_neg (decide_eq_false h)]
    refine no _ rfl ?_
    rintro ⟨R', S', F', e1, e2, h1, h2', h3, h4⟩
    exact h ⟨R', S', e1, h1⟩
end
end Lib
set_option Elab.async false
set_option linter.all false
set_option maxRecDepth 100000
set_option maxHeartbeats 2000000
/-! LibT: the law's own table. -/
namespace Lib
open PySem PySem.Spec PyProof.Rows L2 DN
variable {Xp : EP}
section
variable {Q : PV → Store → Prop} {st : Store} {F : List Pl} {R : List Nat} {x y : Nat} {p f : PV}
def turn : Sd → Sd
  | .ap => .ap
  | .inn r => .aro r
  | .aro r => .inn r
theorem turn_turn {s : Sd} : turn (turn s) = s := by cases s <;> rfl
theorem noX_ok {α : Type} {a : α} {st : Store} : noX (.ok a st : Res α) = .ok a st := rfl
theorem wp_disp3 {a b c : Str} {v1 v2 v3 : PV} {σ : AE} (hab : a ≠ b) (hac : a ≠ c) (hbc : b ≠ c) : (wpX Xp) (dDisp mDk [(dC (.str a), dC v1), (dC (.str b), dC v2), (dC (.str c), dC v3)] σ st) Q = Q (.dK [.inr a, .inr b, .inr c] [v1, v2, v3]) st := by
  simp [dDisp, dPairs, dC, noX_ok, Res.bind, mDk, kPairs, kOf, mergeA, putA, hab, hac, hbc]
theorem ne1 : (Str.ofString "in") ≠ Str.ofString "around" := by decide +kernel
theorem ne2 : (Str.ofString "in") ≠ Str.ofString "apart" := by decide +kernel
theorem ne3 : (Str.ofString "around") ≠ Str.ofString "apart" := by decide +kernel
theorem wp_ixK {ks : List Key} {vs : List PV} {z : Str} {v : PV} (h : look (ks.zip vs) (.inr z) = some v) : (wpX Xp) (pIx (.dK ks vs) (.str z) st) Q = Q v st := by
  simp [pIx, dGet, kOf, h]
theorem turned_spec {s : Sd} (q : Q (sv (turn s)) st) : (wpX Xp) (_law_turned [sv s] st) Q := by
  refine wp_fn ?_
  cases s with
  | ap =>
    simp [sv, wp_disp3 ne1 ne2 ne3]
    rw [wp_ixK (v := .str ("apart" : Str)) (by simp [look, ne1, ne2, ne3])]
    exact Gc.same (by simp) q
  | inn r =>
    simp [sv, wp_disp3 ne1 ne2 ne3]
    rw [wp_ixK (v := .str ("around" : Str)) (by simp [look, ne1, ne2, ne3])]
    exact Gc.same (by simp) q
  | aro r =>
    simp [sv, wp_disp3 ne1 ne2 ne3]
    rw [wp_ixK (v := .str ("in" : Str)) (by simp [look, ne1, ne2, ne3])]
    exact Gc.same (by simp) q
/-- the standings of a and b that these sayings let -/
def tbl (R : List Nat) (S : List Sy) (a b : Nat) : List Sd := (allS R a b).filter fun s => S.all fun z => (!(decide (z.x = a) && decide (z.y = b)) || decide (s ∈ z.lot)) && (!(decide (z.x = b) && decide (z.y = a)) || decide (turn s ∈ z.lot))
theorem tbl_nil {a b : Nat} : tbl R [] a b = allS R a b := by
  unfold tbl
  rw [List.filter_eq_self]
  simp
theorem tbl_snoc {S : List Sy} {z : Sy} {a b : Nat} : tbl R (S ++ [z]) a b = (tbl R S a b).filter fun s => (!(decide (z.x = a) && decide (z.y = b)) || decide (s ∈ z.lot)) && (!(decide (z.x = b) && decide (z.y = a)) || decide (turn s ∈ z.lot)) := by
  unfold tbl
  rw [List.filter_filter]
  congr 1
  funext s
  rw [List.all_append]
  simp [Bool.and_comm]
/-- the dict holds for each two of n things what t says -/
def Tb (es : List (List Key × PV)) (n : Nat) (t : Nat → Nat → List Sd) : Prop := ∀ a b : Nat, a < n → b < n → a ≠ b → look es [.inl a, .inl b] = some (.lst ((t a b).map sv))
def Cln (es : List (List Key × PV)) : Prop := ∀ e ∈ es, cl e.2 = true
theorem cl_svs {L : List Sd} : cls (L.map sv) = true := cls_iff.mpr fun p hp => by
  obtain ⟨s, _, rfl⟩ := List.mem_map.mp hp
  exact cl_sv
theorem Cln.put {es : List (List Key × PV)} {k : List Key} {L : List Sd} (h : Cln es) : Cln (putA es k (.lst (L.map sv))) := putA_vals (p := fun v => cl v = true) h (by simpa using cl_svs)
theorem key_inj {a b c d : Nat} : ([.inl (a : Int), .inl (b : Int)] : List Key) = [.inl (c : Int), .inl (d : Int)] ↔ a = c ∧ b = d := by
  simp
  omega
theorem allS_len (hR : okR R) : (allS R x y).length ≤ 9 := by
  have h1 := rm_le (x := x) hR
  have h2 := rm_le (x := y) hR
  simp [allS]
  omega
theorem tbl_len (hR : okR R) {S : List Sy} : (tbl R S x y).length ≤ 9 := Nat.le_trans (List.length_filter_le _ _) (allS_len hR)
theorem fill_len {S : List Sd} {f : Sd → Bool} {n : Nat} (h : S.length ≤ n) : (S.filter f).length ≤ n := Nat.le_trans (List.length_filter_le _ _) h
theorem table_spec {S : List Sy} {w : PV} (hw : w = .lst (S.map syv)) (hR : okR R) (hl : S.length ≤ 1000) (hS : ∀ s ∈ S, okSy R s) (q : ∀ es, Tb es R.length (tbl R S) → Cln es → Q (fzT es) st) : (wpX Xp) (_law_table [rv R, w] st) Q := by
  subst hw
  have h24 := hR.1
  refine wp_fn ?_
  simp [dNewT, rv, rgN (show R.length ≤ 1000 by omega)]
  refine wps_forRo (fun i σ st' => ∃ (k : Nat) (es : List (List Key × PV)), i = (k : Int) ∧ k ≤ R.length ∧ σ = [some (rv R), some (.lst (S.map syv)), some (.ref st.length), none, none, none, none, none] ∧ st' = st ++ [.dT es] ∧ Cln es ∧ es.length ≤ 24 * k ∧ ∀ a b : Nat, a < k → b < R.length → a ≠ b → look es [.inl a, .inl b] = some (.lst ((allS R a b).map sv))) ?_ ?_ ?_
  · rintro I hI i σ st' ⟨k, es, rfl, hk, rfl, rfl, hc, hz, hT⟩ hi
    simp [rv, rgN (show R.length ≤ 1000 by omega)]
    refine wps_forRo (fun i σ st' => ∃ (j : Nat) (es : List (List Key × PV)), i = (j : Int) ∧ j ≤ R.length ∧ σ = [some (rv R), some (.lst (S.map syv)), some (.ref st.length), some (.int k), none, none, none, none] ∧ st' = st ++ [.dT es] ∧ Cln es ∧ es.length ≤ 24 * k + j ∧ (∀ a b : Nat, a < k → b < R.length → a ≠ b → look es [.inl a, .inl b] = some (.lst ((allS R a b).map sv))) ∧ ∀ b : Nat, b < j → k ≠ b → look es [.inl k, .inl b] = some (.lst ((allS R k b).map sv))) ?_ ?_ ?_
    · rintro J hJ i σ st' ⟨j, es, rfl, hj, rfl, rfl, hc, hz, hT, hT2⟩ hi
      simp
      by_cases hkj : k = j
      · subst hkj
        simp [wipeA]
        refine hJ _ _ _ ⟨k + 1, es, by omega, by omega, rfl, rfl, hc, by omega, hT, fun b hb hn => hT2 b (by omega) hn⟩
      · rw [cnd_neg (decide_eq_false (by omega))]
        refine every_spec hR (by omega) (by omega) ?_
        try simp
        refine wp_setT2 (es := es) (by simp) (by simp only [SZ_lit]; omega) ?_
        simp [wipeA]
        refine hJ _ _ _ ⟨j + 1, _, by omega, by omega, rfl, rfl, hc.put, by have := putA_len (es := es) (k := [.inl (k : Int), .inl (j : Int)]) (v := .lst ((allS R k j).map sv)); omega, fun a b ha hb hn => ?_, fun b hb hn => ?_⟩
        · rw [look_putA, if_neg (by rw [key_inj]; omega)]
          exact hT a b ha hb hn
        · rw [look_putA]
          by_cases e : j = b
          · subst e
            rw [if_pos rfl]
          · rw [if_neg (by rw [key_inj]; omega)]
            exact hT2 b (by omega) hn
    · rintro i σ st' ⟨j, es, rfl, hj, rfl, rfl, hc, hz, hT, hT2⟩ hi
      simp [wipeA]
      refine hI _ _ _ ⟨k + 1, es, by omega, by omega, rfl, rfl, hc, by omega, fun a b ha hb hn => ?_⟩
      by_cases e : a = k
      · subst e
        exact hT2 b (by omega) hn
      · exact hT a b (by omega) hb hn
    · exact ⟨0, es, rfl, by omega, rfl, rfl, hc, by omega, hT, fun b hb => by omega⟩
  · rintro i σ st' ⟨k, es, rfl, hk, rfl, rfl, hc, hz, hT⟩ hi
    simp [wipeA]
    refine wps_forM (fun r σ st' => ∃ (es : List (List Key × PV)) (D : List Sy), σ = [some (rv R), some (.lst (S.map syv)), some (.ref st.length), none, none, none, none, none] ∧ st' = st ++ [.dT es] ∧ S = D ++ r ∧ Cln es ∧ es.length ≤ 576 + 2 * D.length ∧ Tb es R.length (tbl R D)) _ ?_ ?_ ⟨es, [], rfl, rfl, rfl, hc, by simp; omega, fun a b ha hb hn => ?_⟩
    · rintro I hI z r σ st' ⟨es, D, rfl, rfl, e, hc, hz, hT⟩
      have hD : D.length + 1 + r.length = S.length := by rw [e]; simp; omega
      obtain ⟨hx, hy, hxy, hs⟩ := hS z (by rw [e]; simp)
      have hzl : z.lot.length ≤ 9 := Nat.le_trans hs.length_le (allS_len hR)
      simp [syv]
      refine wp_lcA (fun s => sv (turn s)) _ (fun s _ => by simp [wipeA]; exact turned_spec ⟨rfl, rfl⟩) ?_
      have e1 : z.lot.map (fun s => sv (turn s)) = (z.lot.map turn).map sv := by simp
      rw [e1]
      have hM1 : (z.lot.map turn).length ≤ 9 := by simpa using hzl
      have hM2 : ∀ s, s ∈ z.lot.map turn ↔ turn s ∈ z.lot := fun s => by
        rw [List.mem_map]
        exact ⟨fun ⟨u, h, e⟩ => by rw [← e, turn_turn]; exact h, fun h => ⟨_, h, turn_turn⟩⟩
      generalize z.lot.map turn = M at hM1 hM2
      simp
      refine ⟨by omega, ?_⟩
      refine wp_ixR2 (es := es) (by simp) (hT _ _ hx hy hxy) ?_
      simp
      refine wp_lcF (fun s => decide (s ∈ z.lot)) sv _ (fun s _ => by simp [wipeA, wp_inSvT]) ?_
      have l1 := fill_len (f := fun s => decide (s ∈ z.lot)) (tbl_len (x := z.x) (y := z.y) hR (S := D))
      simp
      refine ⟨by omega, ?_⟩
      refine wp_setT2 (es := es) (by simp) (by simp only [SZ_lit]; omega) ?_
      simp
      have p1 := putA_len (es := es) (k := [.inl (z.x : Int), .inl (z.y : Int)]) (v := .lst (((tbl R D z.x z.y).filter fun s => decide (s ∈ z.lot)).map sv))
      have c1 := hc.put (k := [.inl (z.x : Int), .inl (z.y : Int)]) (L := (tbl R D z.x z.y).filter fun s => decide (s ∈ z.lot))
      have t1 : ∀ a b : Nat, a < R.length → b < R.length → a ≠ b → look (putA es [.inl (z.x : Int), .inl (z.y : Int)] (.lst (((tbl R D z.x z.y).filter fun s => decide (s ∈ z.lot)).map sv))) [.inl a, .inl b] = some (.lst ((if z.x = a ∧ z.y = b then (tbl R D a b).filter (fun s => decide (s ∈ z.lot)) else tbl R D a b).map sv)) := fun a b ha hb hn => by
        rw [look_putA]
        by_cases h : z.x = a ∧ z.y = b
        · rw [if_pos (key_inj.mpr h), if_pos h]
          rw [h.1, h.2]
        · rw [if_neg (fun h' => h (key_inj.mp h')), if_neg h]
          exact hT a b ha hb hn
      generalize putA es [.inl (z.x : Int), .inl (z.y : Int)] (.lst (((tbl R D z.x z.y).filter fun s => decide (s ∈ z.lot)).map sv)) = es1 at p1 c1 t1
      refine wp_ixR2 (es := es1) (by simp) (t1 _ _ hy hx (Ne.symm hxy)) ?_
      rw [if_neg (by omega)]
      simp
      refine wp_lcF (fun s => decide (s ∈ M)) sv _ (fun s _ => by simp [wipeA, wp_inSvL]) ?_
      have l2 := fill_len (f := fun s => decide (s ∈ M)) (tbl_len (x := z.y) (y := z.x) hR (S := D))
      simp
      refine ⟨by omega, ?_⟩
      refine wp_setT2 (es := es1) (by simp) (by simp only [SZ_lit]; omega) ?_
      have p2 := putA_len (es := es1) (k := [.inl (z.y : Int), .inl (z.x : Int)]) (v := .lst (((tbl R D z.y z.x).filter fun s => decide (s ∈ M)).map sv))
      have c2 := c1.put (k := [.inl (z.y : Int), .inl (z.x : Int)]) (L := (tbl R D z.y z.x).filter fun s => decide (s ∈ M))
      simp [wipeA]
      refine hI _ _ _ ⟨_, D ++ [z], rfl, rfl, by simp [e], c2, by simp; omega, fun a b ha hb hn => ?_⟩
      rw [look_putA, tbl_snoc]
      by_cases h : z.x = a ∧ z.y = b
      · obtain ⟨rfl, rfl⟩ := h
        rw [if_neg (by rw [key_inj]; omega), t1 _ _ ha hb hn, if_pos ⟨rfl, rfl⟩]
        congr 4
        funext s
        have : ¬ (z.x = z.y ∧ z.y = z.x) := by omega
        simp
        omega
      · by_cases h2 : z.x = b ∧ z.y = a
        · obtain ⟨rfl, rfl⟩ := h2
          rw [if_pos rfl]
          congr 4
          funext s
          simp [hM2]
          omega
        · rw [if_neg (by rw [key_inj]; omega), t1 _ _ ha hb hn, if_neg h]
          congr 3
          symm
          rw [List.filter_eq_self]
          intro s _
          have h1' : (decide (z.x = a) && decide (z.y = b)) = false := by simpa using h
          have h2' : (decide (z.x = b) && decide (z.y = a)) = false := by simpa using h2
          rw [h1', h2']
          rfl
    · rintro σ st' ⟨es, D, rfl, rfl, e, hc, hz, hT⟩
      simp [wipeA]
      have : S = D := by simpa using e
      subst this
      exact Gc.dT (s := st.length) (n := st.length) (x := st) (es := es) (junk := [.dT es]) (cls_iff.mpr fun p hp => by obtain ⟨e, he, rfl⟩ := List.mem_map.mp hp; exact hc e he) .refl rfl (Nat.le_refl _) (by simp) (q es hT hc)
    · rw [tbl_nil]
      exact hT a b (by omega) hb hn
  · exact ⟨0, [], rfl, by omega, rfl, rfl, (fun e he => by cases he), by simp, fun a b ha => by omega⟩
end
end Lib
set_option Elab.async false
set_option linter.all false
set_option maxRecDepth 100000
set_option maxHeartbeats 2000000
/-! LibU: the law's own parts, rooms over them, free things, solver. -/
namespace Lib
open PySem PySem.Spec PyProof.Rows L2 DN
variable {Xp : EP}
section
variable {Q : PV → Store → Prop} {st : Store} {F : List Pl} {R : List Nat} {x y n : Nat} {p f : PV} {t : Nat → Nat → List Sd} {es : List (List Key × PV)}
/-! kept -/
theorem kept_spec (hw : Wf F) (hz : F.length ≤ 1000) (hT : Tb es F.length t) (q : Q (.bl (decide (∀ x, x < F.length → ∀ y, y < x → std F x y ∈ t x y))) st) : (wpX Xp) (_law_kept [fzT es, fv F] st) Q := by
  refine wp_fn ?_
  simp [fv, rgN hz]
  have no : (¬ ∀ x, x < F.length → ∀ y, y < x → std F x y ∈ t x y) → Gc st (.bl false) st Q := fun hn => Gc.same (by simp) (by simpa [hn] using q)
  refine wps_forRo (fun i σ st' => ∃ k : Nat, i = (k : Int) ∧ k ≤ F.length ∧ σ = [some (fzT es), some (fv F), none, none] ∧ st = st' ∧ ∀ x, x < k → ∀ y, y < x → std F x y ∈ t x y) ?_ ?_ ?_
  · rintro I hI i σ st' ⟨k, rfl, hk, rfl, rfl, e⟩ hi
    simp [rgN (show k ≤ 1000 by omega)]
    refine wps_forRo (fun i σ st' => ∃ j : Nat, i = (j : Int) ∧ j ≤ k ∧ σ = [some (fzT es), some (fv F), some (.int k), none] ∧ st = st' ∧ ∀ y, y < j → std F k y ∈ t k y) ?_ ?_ ?_
    · rintro J hJ i σ st' ⟨j, rfl, hj, rfl, rfl, e2⟩ hi
      simp
      refine standing_spec hw (by omega) (by omega) hz ?_
      try simp
      refine wp_ixT2 (hT k j (by omega) (by omega) (by omega)) ?_
      rw [wp_notInSvL]
      simp
      by_cases h : std F k j ∈ t k j
      · rw [cnd_pos (decide_eq_true h)]
        simp [wipeA]
        refine hJ _ _ _ ⟨j + 1, by omega, by omega, rfl, rfl, fun y hy => ?_⟩
        by_cases e3 : y = j
        · subst e3; exact h
        · exact e2 y (by omega)
      · rw [cnd_neg (decide_eq_false h)]
        exact no fun z => h (z k (by omega) j (by omega))
    · rintro i σ st' ⟨j, rfl, hj, rfl, rfl, e2⟩ hi
      simp [wipeA]
      refine hI _ _ _ ⟨k + 1, by omega, by omega, rfl, rfl, fun x hx y hy => ?_⟩
      by_cases e3 : x = k
      · subst e3; exact e2 y (by omega)
      · exact e x (by omega) y hy
    · exact ⟨0, rfl, by omega, rfl, rfl, fun y hy => by omega⟩
  · rintro i σ st' ⟨k, rfl, hk, rfl, rfl, e⟩ hi
    try simp [wipeA]
    refine Gc.same (by simp) ?_
    have : ∀ x, x < F.length → ∀ y, y < x → std F x y ∈ t x y := fun x hx => e x (by omega)
    rw [decide_eq_true this] at q
    exact q
  · exact ⟨0, rfl, by omega, rfl, rfl, fun y hy => by omega⟩
/-! sorting -/
def insN (i : Nat) : List Nat → List Nat
  | [] => [i]
  | j :: r => if i ≤ j then i :: j :: r else j :: insN i r
def srt : List Nat → List Nat
  | [] => []
  | i :: r => insN i (srt r)
def ci (k : Nat) : Int := k
theorem ins_map {i : Nat} : ∀ {l : List Nat}, DN.ins (ci i) (l.map ci) = (insN i l).map ci
  | [] => rfl
  | j :: r => by
    simp only [List.map_cons, DN.ins, insN]
    by_cases h : i ≤ j
    · rw [if_pos (by unfold ci; omega), if_pos h]; simp
    · rw [if_neg (by unfold ci; omega), if_neg h, ins_map]; simp
theorem isort_map : ∀ {l : List Nat}, DN.isort (l.map ci) = (srt l).map ci
  | [] => rfl
  | i :: r => by simp only [List.map_cons, DN.isort, srt, isort_map, ins_map]
theorem insN_perm (i : Nat) : ∀ l : List Nat, (insN i l).Perm (i :: l)
  | [] => List.Perm.refl _
  | j :: r => by
    unfold insN
    split
    · exact List.Perm.refl _
    · exact ((insN_perm i r).cons j).trans (List.Perm.swap i j r)
theorem srt_perm : ∀ l : List Nat, (srt l).Perm l
  | [] => List.Perm.refl _
  | i :: r => (insN_perm i (srt r)).trans ((srt_perm r).cons i)
theorem wp_srtN {l : List Nat} : (wpX Xp) (qSrtI [.lst (l.map nv)] st) Q = Q (.lst ((srt l).map nv)) st := by
  have e : ∀ l : List Nat, l.map nv = (l.map ci).map PV.int := fun l => by simp [Function.comp_def]; intro a _; rfl
  rw [e, wp_srtL, isort_map, e]
/-! parts -/
def lk (t : Nat → Nat → List Sd) (a b : Nat) : Bool := !decide (.ap ∈ t a b)
def grow (t : Nat → Nat → List Sd) : Nat → List Nat → List Nat → Nat → List Nat × List Nat
  | 0, left, part, _ => (left, part)
  | k + 1, left, part, a => match part[a]? with
    | some u => grow t k (left.filter fun y => !lk t u y) (part ++ left.filter fun y => lk t u y) (a + 1)
    | none => (left, part)
def prt (t : Nat → Nat → List Sd) : Nat → List Nat → List (List Nat)
  | 0, _ => []
  | _ + 1, [] => []
  | k + 1, a :: l => srt (grow t (l.length + 1) l [a] 0).2 :: prt t k (grow t (l.length + 1) l [a] 0).1
/-- the parts of a lot that hang together -/
def pt (t : Nat → Nat → List Sd) (L : List Nat) : List (List Nat) := prt t L.length (srt L)
def tv (P : List Nat) : PV := .tup (P.map nv)
theorem split_perm {l : List Nat} {g : Nat → Bool} : (l.filter (fun y => !g y) ++ l.filter g).Perm l := by
  induction l with
  | nil => simp
  | cons a l ih =>
    cases h : g a with
    | true =>
      simp only [List.filter_cons, h, Bool.not_true, if_false, if_true, Bool.false_eq_true]
      exact List.perm_middle.trans (ih.cons a)
    | false =>
      simp only [List.filter_cons, h, Bool.not_false, if_false, if_true, Bool.false_eq_true]
      exact ih.cons a
theorem grow_perm : ∀ (k : Nat) (left part : List Nat) (a : Nat), ((grow t k left part a).1 ++ (grow t k left part a).2).Perm (left ++ part)
  | 0, left, part, a => List.Perm.refl _
  | k + 1, left, part, a => by
    unfold grow
    split
    · rename_i u _
      refine (grow_perm k _ _ _).trans ?_
      have h1 : (left.filter (fun y => !lk t u y) ++ (part ++ left.filter fun y => lk t u y)).Perm (left.filter (fun y => !lk t u y) ++ (left.filter (fun y => lk t u y) ++ part)) := List.perm_append_comm.append_left _
      refine h1.trans ?_
      rw [← List.append_assoc]
      exact (split_perm (g := fun y => lk t u y)).append_right part
    · exact List.Perm.refl _
theorem grow_sub : ∀ (k : Nat) (left part : List Nat) (a : Nat), ∃ m, (grow t k left part a).2 = part ++ m
  | 0, left, part, a => ⟨[], by simp [grow]⟩
  | k + 1, left, part, a => by
    unfold grow
    split
    · rename_i u _
      obtain ⟨m, e⟩ := grow_sub k (left.filter fun y => !lk t u y) (part ++ left.filter fun y => lk t u y) (a + 1)
      exact ⟨_, by rw [e, List.append_assoc]⟩
    · exact ⟨[], by simp⟩
theorem grow_len (k : Nat) (left part : List Nat) (a : Nat) : (grow t k left part a).1.length ≤ left.length := by
  have h := (grow_perm (t := t) k left part a).length_eq
  obtain ⟨m, e⟩ := grow_sub (t := t) k left part a
  rw [e] at h
  simp at h
  omega
theorem prt_perm : ∀ (k : Nat) (l : List Nat), l.length ≤ k → ((prt t k l).flatten).Perm l
  | 0, l, h => by
    have : l = [] := List.length_eq_zero_iff.mp (by omega)
    subst this
    simp [prt]
  | k + 1, [], _ => by simp [prt]
  | k + 1, a :: l, h => by
    simp only [prt, List.flatten_cons]
    have h1 := grow_len (t := t) (l.length + 1) l [a] 0
    have h2 := prt_perm k (grow t (l.length + 1) l [a] 0).1 (by simp at h; omega)
    have h3 := grow_perm (t := t) (l.length + 1) l [a] 0
    refine ((srt_perm _).append h2).trans (List.perm_append_comm.trans (h3.trans ?_))
    exact List.perm_append_comm
theorem pt_perm {L : List Nat} : ((pt t L).flatten).Perm L := (prt_perm _ _ (by rw [(srt_perm L).length_eq]; exact Nat.le_refl _)).trans (srt_perm L)
theorem prt_pos : ∀ (k : Nat) (l : List Nat), ∀ P ∈ prt t k l, P ≠ []
  | 0, _, _, h => by simp [prt] at h
  | k + 1, [], _, h => by simp [prt] at h
  | k + 1, a :: l, P, h => by
    simp only [prt, List.mem_cons] at h
    rcases h with rfl | h
    · intro e
      obtain ⟨m, hm⟩ := grow_sub (t := t) (l.length + 1) l [a] 0
      have := (srt_perm (grow t (l.length + 1) l [a] 0).2).length_eq
      rw [e, hm] at this
      simp at this
    · exact prt_pos k _ P h
theorem all_sub {L : List Nat} {P : List Nat} (hP : P ∈ pt t L) : ∀ a ∈ P, a ∈ L := fun a ha => (pt_perm (t := t)).subset (List.mem_flatten.mpr ⟨P, hP, ha⟩)
theorem flat_nodup {l : List (List Nat)} (h : l.flatten.Nodup) {P : List Nat} (hP : P ∈ l) : P.Nodup := by
  induction l with
  | nil => cases hP
  | cons a l ih =>
    rw [List.flatten_cons, List.nodup_append] at h
    rcases List.mem_cons.mp hP with rfl | hP
    · exact h.1
    · exact ih h.2.1 hP
theorem pt_nodup {L P : List Nat} (hn : L.Nodup) (hP : P ∈ pt t L) : P.Nodup := flat_nodup ((pt_perm (t := t)).nodup_iff.mpr hn) hP
theorem prt_fuel : ∀ (k m : Nat) (l : List Nat), l.length ≤ k → l.length ≤ m → prt t k l = prt t m l
  | 0, m, l, h, _ => by
    have : l = [] := List.length_eq_zero_iff.mp (by omega)
    subst this
    cases m <;> rfl
  | k + 1, 0, l, _, h => by
    have : l = [] := List.length_eq_zero_iff.mp (by omega)
    subst this
    rfl
  | k + 1, m + 1, [], _, _ => rfl
  | k + 1, m + 1, a :: l, h, h' => by
    have h1 := grow_len (t := t) (l.length + 1) l [a] 0
    simp only [prt]
    rw [prt_fuel k m _ (by simp at h; omega) (by simp at h'; omega)]
end
end Lib
set_option Elab.async false
set_option linter.all false
set_option maxRecDepth 100000
set_option maxHeartbeats 2000000
/-! LibV: walks of the law's own parts. -/
namespace Lib
open PySem PySem.Spec PyProof.Rows L2 DN
variable {Xp : EP}
section
variable {Q : PV → Store → Prop} {st : Store} {F : List Pl} {R : List Nat} {x y n : Nat} {p f : PV} {t : Nat → Nat → List Sd} {es : List (List Key × PV)}
theorem dab_nvs {L : List Nat} {m : Nat} : (L.map nv).all (dab m) = true := by
  rw [List.all_eq_true]
  intro p hp
  obtain ⟨a, _, rfl⟩ := List.mem_map.mp hp
  cases m <;> simp [nv, dab]
theorem cls_nvs {L : List Nat} : cls (L.map nv) = true := cls_iff.mpr fun p hp => by
  obtain ⟨a, _, rfl⟩ := List.mem_map.mp hp
  simp [nv]
theorem wp_notInN {L : List Nat} {a : Nat} : (wpX Xp) (pNotIn (nv a) (.lst (L.map nv)) st) Q = Q (.bl (!decide (a ∈ L))) st := by
  rw [wp_notInL (by simp [nv, dpv]) (by simp [nv, dpv])]
  congr 3
  rw [decide_eq_decide, List.mem_map]
  constructor
  · rintro ⟨b, hb, e⟩
    simp only [nv, PV.int.injEq] at e
    have : b = a := by omega
    exact this ▸ hb
  · exact fun h => ⟨a, h, rfl⟩
theorem atI_nv {L : List Nat} {i u : Nat} (h : L[i]? = some u) : atI (L.map nv) (i : Int) = some (nv u) := by
  have hl := (List.getElem?_eq_some_iff.mp h).1
  rw [atI_map hl, (List.getElem?_eq_some_iff.mp h).2]
theorem cut_tail {α : Type} {a : α} {l : List α} : cut (a :: l) (some 1) none = l := by
  simp [cut, HT.sIx]
theorem flat_len {l : List (List Nat)} (h : ∀ P ∈ l, P ≠ []) : l.length ≤ l.flatten.length := by
  induction l with
  | nil => simp
  | cons a l ih =>
    have h1 := ih fun P hP => h P (List.mem_cons_of_mem _ hP)
    have h2 : 0 < a.length := List.length_pos_iff.mpr (h a List.mem_cons_self)
    simp only [List.flatten_cons, List.length_append, List.length_cons]
    omega
theorem parts_spec {L : List Nat} {w : PV} (hw : w = .lst (L.map nv)) (hT : Tb es n t) (hn : n ≤ 1000) (hd : L.Nodup) (hL : ∀ a ∈ L, a < n) (q : Q (.lst ((pt t L).map tv)) st) : (wpX Xp) (_law_parts [fzT es, w] st) Q := by
  subst hw
  have hlen : L.length ≤ n := nodup_bound n L hd hL
  refine wp_fn ?_
  simp [wp_srtN]
  refine wps_whileO (fun k σ st' => ∃ (left : List Nat) (acc : List (List Nat)), σ = [some (fzT es), some (.lst (L.map nv)), some (.lst (left.map nv)), some (.ref st.length), none, none, none, none] ∧ st' = st ++ [.lst (acc.map tv)] ∧ left.length = k ∧ left.length ≤ n ∧ left.Nodup ∧ (∀ a ∈ left, a < n) ∧ acc ++ prt t left.length left = pt t L) ?_ L.length ?_
  · rintro I hI k σ st' ⟨left, acc, rfl, rfl, hk, hln, hnd, hlt, e⟩
    simp
    rw [wp_neNil dab_nvs]
    cases left with
    | nil =>
      simp
      simp [prt] at e
      subst e
      refine Gc.lstP (junk := [.lst ((pt t L).map tv)]) (n := st.length) (l := (pt t L).map tv) (cls_iff.mpr fun p hp => ?_) rfl (Nat.le_refl _) (by simp) q
      obtain ⟨P, _, rfl⟩ := List.mem_map.mp hp
      simpa [tv] using cls_nvs
    | cons a l =>
      simp
      have hl1 : l.length + 1 = k := by simpa using hk
      refine wps_whileO (fun m σ st' => ∃ (left part : List Nat) (i : Nat), σ = [some (fzT es), some (.lst (L.map nv)), some (.lst (left.map nv)), some (.ref st.length), some (.lst (part.map nv)), some (.int i), none, none] ∧ st' = st ++ [.lst (acc.map tv)] ∧ left.length + part.length = i + m ∧ left.length + part.length ≤ n ∧ (left ++ part).Nodup ∧ (∀ a ∈ left ++ part, a < n) ∧ grow t m left part i = grow t (l.length + 1) l [a] 0) ?_ (l.length + 1) ?_
      · rintro J hJ m σ st' ⟨left, part, i, rfl, rfl, hm, hm2, hnd2, hlt2, e2⟩
        simp
        by_cases hi : i < part.length
        · rw [cnd_pos (decide_eq_true (by omega))]
          obtain ⟨m, rfl⟩ : ∃ m', m = m' + 1 := ⟨m - 1, by omega⟩
          have hu : part[i]? = some part[i] := List.getElem?_eq_getElem hi
          have hup : part[i] ∈ part := List.getElem_mem hi
          generalize part[i] = u at hu hup
          have hun : u < n := hlt2 u (by simp [hup])
          refine wp_lcF (fun y => lk t u y) nv left (fun y hy => ?_) ?_
          · have hyu : u ≠ y := fun h => by
              subst h
              exact (List.nodup_append.mp hnd2).2.2 u hy u hup rfl
            simp [wipeA, atI_nv hu, nv]
            refine wp_ixT2 (hT u y hun (hlt2 y (by simp [hy])) hyu) ?_
            have := fun Xp Q' => wp_notInSvL (Xp := Xp) (Q := Q') (st := st ++ [.lst (acc.map tv)]) (s := .ap) (L := t u y)
            simp only [sv] at this
            rw [this]
            simp [lk]
          · have f1 : (left.filter fun y => lk t u y).length ≤ left.length := List.length_filter_le _ _
            simp
            refine ⟨by omega, ?_⟩
            refine wp_lcF (fun y => !lk t u y) nv left (fun y hy => ?_) ?_
            · simp [wipeA]
              rw [wp_notInN]
              simp [hy]

            · have f2 : (left.filter fun y => !lk t u y).length ≤ left.length := List.length_filter_le _ _
              have f3 := (split_perm (l := left) (g := fun y => lk t u y)).length_eq
              simp at f3
              simp
              refine ⟨by omega, by omega, ?_⟩
              simp [wipeA]
              have hp : ((left.filter fun y => !lk t u y) ++ (part ++ left.filter fun y => lk t u y)).Perm (left ++ part) := by
                have h1 : ((left.filter fun y => !lk t u y) ++ (part ++ left.filter fun y => lk t u y)).Perm ((left.filter fun y => !lk t u y) ++ ((left.filter fun y => lk t u y) ++ part)) := List.perm_append_comm.append_left _
                refine h1.trans ?_
                rw [← List.append_assoc]
                exact (split_perm (g := fun y => lk t u y)).append_right part
              have hpl := hp.length_eq
              simp only [List.length_append] at hpl
              refine ⟨m, by omega, hJ _ _ _ ⟨_, part ++ left.filter (fun y => lk t u y), i + 1, ?_, rfl, ?_, ?_, hp.nodup_iff.mpr hnd2, fun a ha => hlt2 a (hp.subset ha), ?_⟩⟩
              · simp
              · simp only [List.length_append]; omega
              · simp only [List.length_append]; omega
              · rw [← e2]
                conv => rhs; unfold grow
                rw [hu]
        · rw [cnd_neg (decide_eq_false (by omega))]
          refine ⟨isL_ref (l := acc.map tv) (by simp), ?_⟩
          rw [wp_srtN]
          simp
          have e3 : grow t m left part i = (left, part) := by
            cases m with
            | zero => rfl
            | succ m => unfold grow; rw [List.getElem?_eq_none (by omega)]
          rw [e3] at e2
          have hacc : acc.length ≤ 1000 := by
            have h1 : acc.length ≤ (pt t L).length := by rw [← e]; simp
            have h2 := flat_len (l := pt t L) (fun P hP => prt_pos _ _ P hP)
            rw [(pt_perm (t := t) (L := L)).length_eq] at h2
            omega
          refine wp_append (l := acc.map tv) (by simp) (by simp only [List.length_map, SZ_lit]; omega) ?_
          simp [wipeA]
          have hg := grow_len (t := t) (l.length + 1) l [a] 0
          rw [← e2] at hg
          simp only at hg
          refine ⟨left.length, by omega, hI _ _ _ ⟨left, acc ++ [srt part], rfl, by simp [tv], rfl, by omega, (List.nodup_append.mp hnd2).1, fun a ha => hlt2 a (by simp [ha]), ?_⟩⟩
          rw [← e]
          simp only [List.length_cons, prt, ← e2, List.append_assoc, List.singleton_append]
          have : prt t left.length left = prt t l.length left := prt_fuel left.length l.length left (by omega) (by omega)
          rw [this]
      · refine ⟨l, [a], 0, ?_, rfl, by simp, by simp; simp at hln; omega, ?_, ?_, rfl⟩
        · simp [cut_tail]
        · exact List.perm_append_comm.nodup_iff.mpr hnd
        · intro b hb
          exact hlt b (List.perm_append_comm.subset hb)
  · refine ⟨srt L, [], rfl, rfl, ?_, ?_, ?_, ?_, ?_⟩
    · exact (srt_perm L).length_eq
    · rw [(srt_perm L).length_eq]; exact hlen
    · exact (srt_perm L).nodup_iff.mpr hd
    · exact fun a ha => hL a ((srt_perm L).subset ha)
    · rw [(srt_perm L).length_eq]; rfl
end
end Lib
set_option Elab.async false
set_option linter.all false
set_option maxRecDepth 100000
set_option maxHeartbeats 2000000
/-! LibW: the law's own free things, its solver. -/
namespace Lib
open PySem PySem.Spec PyProof.Rows L2 DN
variable {Xp : EP}
section
variable {Q : PV → Store → Prop} {st : Store} {F : List Pl} {R : List Nat} {x y n : Nat} {p f : PV} {t : Nat → Nat → List Sd} {es : List (List Key × PV)}
def les (L : List Nat) (x : Nat) : List Nat := L.filter fun y => !decide (y = x)
/-- a list or a tuple of these -/
def Sq (w : PV) (L : List Nat) : Prop := w = .lst (L.map nv) ∨ w = tv L
theorem Sq.src {w : PV} {L : List Nat} {QI : Src → Store → Prop} (h : Sq w L) : (wpX Xp) (srcOf w st) QI = QI (L.map nv, fun _ => true) st := by
  rcases h with rfl | rfl
  · simp
  · simp [tv]
theorem Sq.cl {w : PV} {L : List Nat} (h : Sq w L) : cl w = true := by
  rcases h with rfl | rfl
  · simpa using cls_nvs
  · simpa [tv] using cls_nvs
theorem less_spec {w : PV} {L : List Nat} (hw : Sq w L) (hz : L.length ≤ 1000) (q : Q (.lst ((les L x).map nv)) st) : (wpX Xp) (_law_less [w, .int x]  st) Q := by
  refine wp_fn ?_
  simp [hw.src]
  refine wp_lcF (fun y => !decide (y = x)) nv L (fun y hy => ?_) ?_
  · simp [wipeA, nv]
    have : ((y : Int) = x) ↔ y = x := by omega
    simp [this]
  · have := List.length_filter_le (fun y => !decide (y = x)) L
    simp
    refine ⟨by omega, Gc.same (by simpa using cls_nvs) ?_⟩
    simpa [les] using q
def ovr (R : List Nat) (t : Nat → Nat → List Sd) (x : Nat) (P : List Nat) : List Nat := (List.range (rm R x)).filter fun i => P.all fun y => decide (.aro i ∈ t x y)
theorem over_spec {P : List Nat} {w : PV} (hw : Sq w P) (hR : okR R) (hT : Tb es R.length t) (hx : x < R.length) (hz : P.length ≤ 1000) (hP : ∀ y ∈ P, y < R.length ∧ y ≠ x) (q : Q (.lst ((ovr R t x P).map nv)) st) : (wpX Xp) (_law_over [rv R, fzT es, .int x, w] st) Q := by
  have h4 := rm_le (x := x) hR
  refine wp_fn ?_
  simp [rv, atI_rv hx, rgN (show rm R x ≤ 1000 by omega)]
  rw [rgP_nat]
  refine wp_lcF (fun i => P.all fun y => decide (.aro i ∈ t x y)) nv _ (fun i hi => ?_) ?_
  · simp [wipeA, hw.src]
    refine wp_lcF (fun y => !decide (.aro i ∈ t x y)) nv P (fun y hy => ?_) ?_
    · simp [wipeA, nv]
      refine wp_ixT2 (hT x y hx (hP y hy).1 (Ne.symm (hP y hy).2)) ?_
      have := fun Xp Q' => wp_notInSvL (Xp := Xp) (Q := Q') (st := st) (s := .aro i) (L := t x y)
      simp only [sv] at this
      rw [this]
      simp
    · have := List.length_filter_le (fun y => !decide (.aro i ∈ t x y)) P
      simp
      refine ⟨by omega, ?_⟩
      rw [wp_eqNil dab_nvs]
      simp [nv]
      rw [Bool.eq_iff_iff]
      simp
  · have := List.length_filter_le (fun i => P.all fun y => decide (.aro i ∈ t x y)) (List.range (rm R x))
    simp at this
    simp
    refine ⟨by omega, Gc.same (by simpa using cls_nvs) ?_⟩
    simpa [ovr] using q
def freB (R : List Nat) (t : Nat → Nat → List Sd) (L : List Nat) (x : Nat) : Bool := (pt t (les L x)).all fun P => !(ovr R t x P).isEmpty
def fre (R : List Nat) (t : Nat → Nat → List Sd) (L : List Nat) : List Nat := L.filter (freB R t L)
theorem les_nodup {L : List Nat} (h : L.Nodup) : (les L x).Nodup := h.filter _
theorem les_mem {L : List Nat} {a : Nat} : a ∈ les L x ↔ a ∈ L ∧ a ≠ x := by simp [les]
theorem les_len {L : List Nat} (hd : L.Nodup) (hx : x ∈ L) : (les L x).length + 1 = L.length := by
  have e : les L x = L.erase x := by
    rw [hd.erase_eq_filter]
    unfold les
    congr 1
  rw [e, List.length_erase_of_mem hx]
  have := List.length_pos_of_mem hx
  omega
theorem pt_len {L : List Nat} : (pt t L).length ≤ L.length := by
  have h2 := flat_len (l := pt t L) (fun P hP => prt_pos _ _ P hP)
  rwa [(pt_perm (t := t) (L := L)).length_eq] at h2
theorem free_spec {L : List Nat} {w : PV} (hw : Sq w L) (hR : okR R) (hT : Tb es R.length t) (hd : L.Nodup) (hL : ∀ y ∈ L, y < R.length) (q : Q (.lst ((fre R t L).map nv)) st) : (wpX Xp) (_law_free [rv R, fzT es, w] st) Q := by
  have h24 := hR.1
  have hz := nodup_bound _ L hd hL
  refine wp_fn ?_
  simp [hw.src]
  refine wps_forM (fun r σ st' => ∃ acc : List Nat, σ = [some (rv R), some (fzT es), some w, some (.ref st.length), none, none] ∧ st' = st ++ [.lst (acc.map nv)] ∧ (∀ a ∈ r, a ∈ L) ∧ acc.length + r.length ≤ L.length ∧ acc ++ r.filter (freB R t L) = fre R t L) _ ?_ ?_ ⟨[], rfl, rfl, fun _ h => h, by simp, rfl⟩
  · rintro I hI a r σ st' ⟨acc, rfl, rfl, hm, hl, e⟩
    have ha := hm a List.mem_cons_self
    simp [nv]
    refine less_spec hw (by omega) ?_
    try simp
    have hlz : (les L a).length ≤ L.length := List.length_filter_le _ _
    refine parts_spec rfl hT (by omega) (les_nodup hd) (fun y hy => hL y (les_mem.mp hy).1) ?_
    simp
    refine wp_lcF (fun P => (ovr R t a P).isEmpty) tv _ (fun P hP => ?_) ?_
    · simp [wipeA]
      have hPl : P.length ≤ R.length := nodup_bound _ P (pt_nodup (les_nodup hd) hP) fun y hy => hL y (les_mem.mp (all_sub hP y hy)).1
      refine over_spec (.inr rfl) hR hT (hL a ha) (by omega) (fun y hy => ?_) ?_
      · have := les_mem.mp (all_sub hP y hy)
        exact ⟨hL y this.1, this.2⟩
      · rw [wp_eqNil dab_nvs]
        simp
    · have h1 := List.length_filter_le (fun P => (ovr R t a P).isEmpty) (pt t (les L a))
      have h2 := pt_len (t := t) (L := les L a)
      simp
      refine ⟨by omega, ?_⟩
      have h3 : (((pt t (les L a)).filter fun P => (ovr R t a P).isEmpty).map tv).all (dab 20) = true := by
        rw [List.all_eq_true]
        intro p hp
        obtain ⟨P, _, rfl⟩ := List.mem_map.mp hp
        simpa [tv, dab] using dab_nvs
      rw [wp_eqNil h3]
      have h4 : (((pt t (les L a)).filter fun P => (ovr R t a P).isEmpty).map tv).isEmpty = freB R t L a := by
        rw [Bool.eq_iff_iff]
        simp [freB]
      rw [h4]
      simp
      cases hf : freB R t L a with
      | true =>
        simp
        refine ⟨isL_ref (l := acc.map nv) (by simp), ?_⟩
        refine wp_append (l := acc.map nv) (by simp) (by simp only [List.length_map, SZ_lit]; simp at hl; omega) ?_
        simp [wipeA]
        refine hI _ _ _ ⟨acc ++ [a], rfl, by simp [nv], fun b hb => hm b (List.mem_cons_of_mem _ hb), by simp at hl ⊢; omega, ?_⟩
        rw [← e]
        simp [hf]
      | false =>
        simp [wipeA]
        refine hI _ _ _ ⟨acc, rfl, rfl, fun b hb => hm b (List.mem_cons_of_mem _ hb), by simp at hl ⊢; omega, ?_⟩
        rw [← e]
        simp [hf]
  · rintro σ st' ⟨acc, rfl, rfl, hm, hl, e⟩
    simp [wipeA]
    simp at e
    subst e
    exact Gc.lstP (junk := [.lst ((fre R t L).map nv)]) (n := st.length) (l := (fre R t L).map nv) cls_nvs rfl (Nat.le_refl _) (by simp) q
def wk (w : List Nat × Pl) : PV := .tup [tv w.1, pv w.2]
theorem dab_pv {q : Pl} {m : Nat} (h : 1 ≤ m) : dab m (pv q) = true := by
  obtain ⟨m, rfl⟩ : ∃ k, m = k + 1 := ⟨m - 1, by omega⟩
  cases q with
  | none => simp [pv, dab]
  | some g => cases m <;> simp [pv, pp, dab]
theorem dab_tv {L : List Nat} {m : Nat} (h : 1 ≤ m) : dab m (tv L) = true := by
  obtain ⟨m, rfl⟩ : ∃ k, m = k + 1 := ⟨m - 1, by omega⟩
  simpa [tv, dab] using dab_nvs
theorem dab_wks {W : List (List Nat × Pl)} : (W.map wk).all (dab 20) = true := by
  rw [List.all_eq_true]
  intro p hp
  obtain ⟨w, _, rfl⟩ := List.mem_map.mp hp
  simp [wk, dab, dab_tv, dab_pv]
theorem wp_neRef {l : List PV} {k : Nat} (hk : st[k]? = some (.lst l)) (h : l.all (dab 20) = true) : (wpX Xp) (pNe (.ref k) (.lst []) st) Q = Q (.bl (!l.isEmpty)) st := by
  have h1 := wp_neNil (Xp := Xp) (Q := Q) (st := st) h
  have e : pNe (.ref k) (.lst []) st = pNe (.lst l) (.lst []) st := by
    have : toD (.ref k) st = toD (.lst l) st := by simp [toD, toD0, hk]
    simp only [pNe, pEqB, this]
  rw [e]
  exact h1
def wsz (W : List (List Nat × Pl)) : Nat := (W.map fun w => w.1.length).sum
theorem wsz_app {W V : List (List Nat × Pl)} : wsz (W ++ V) = wsz W + wsz V := by simp [wsz]
def okW (R : List Nat) (W : List (List Nat × Pl)) : Prop := ∀ w ∈ W, w.1 ≠ [] ∧ w.1.Nodup ∧ (∀ a ∈ w.1, a < R.length) ∧ ∀ h, w.2 = some h → h.1 < R.length
theorem okW_len {W : List (List Nat × Pl)} (h : okW R W) : W.length ≤ wsz W := by
  induction W with
  | nil => simp
  | cons w W ih =>
    have h1 := ih fun v hv => h v (List.mem_cons_of_mem _ hv)
    have h2 := List.length_pos_iff.mpr (h w List.mem_cons_self).1
    simp only [wsz, List.map_cons, List.sum_cons, List.length_cons] at h1 ⊢
    omega
theorem last_nv {G : List Nat} (h : G ≠ []) : ∃ u, u ∈ G ∧ atI (G.map nv) ((G.length : Int) - 1) = some (nv u) := by
  have hl := List.length_pos_iff.mpr h
  refine ⟨G[G.length - 1], List.getElem_mem _, ?_⟩
  have := atI_nv (L := G) (i := G.length - 1) (u := G[G.length - 1]) (List.getElem?_eq_getElem _)
  rwa [show ((G.length - 1 : Nat) : Int) = (G.length : Int) - 1 by omega] at this
theorem cls_pvs {F : List Pl} : cls (F.map pv) = true := cls_iff.mpr fun p hp => by
  obtain ⟨q, _, rfl⟩ := List.mem_map.mp hp
  cases q <;> simp [pv, pp]
/-- a part is barred, or forest-like places -/
theorem solved_spec (hR : okR R) (hT : Tb es R.length t) (q1 : ∀ L, Q (.tup [.non, tv L]) st) (q2 : ∀ F : List Pl, F.length = R.length → (∀ h, some h ∈ F → h.1 < R.length) → Q (.tup [fv F, .non]) st) : (wpX Xp) (_law_solved [rv R, fzT es] st) Q := by
  have h24 := hR.1
  have hng : (List.range R.length).Nodup := List.nodup_range
  refine wp_fn ?_
  simp [rv, rgN (show R.length ≤ 1000 by omega)]
  rw [rgP_nat]
  refine wp_lcA (fun _ => .non) _ (fun i hi => by simp [wipeA]) ?_
  simp [rgN (show R.length ≤ 1000 by omega)]
  refine ⟨by omega, ?_⟩
  refine wp_lcA nv _ (fun i hi => by simp [wipeA, nv]) ?_
  simp
  refine ⟨by omega, ?_⟩
  refine parts_spec rfl hT (by omega) hng (fun a ha => by simpa using ha) ?_
  obtain ⟨F0, hF0, hF0n, e0⟩ : ∃ F0 : List Pl, F0.length = R.length ∧ (∀ h, some h ∉ F0) ∧ (List.range R.length).map (fun _ => PV.non) = F0.map pv := by
    refine ⟨List.replicate R.length none, by simp, by simp, ?_⟩
    rw [List.map_const']
    simp [pv]
  rw [e0]
  have hpl := (pt_perm (t := t) (L := List.range R.length)).length_eq
  simp only [List.length_range] at hpl
  simp
  refine wps_forM (fun r σ st' => ∃ W : List (List Nat × Pl), σ = [some (rv R), some (fzT es), none, some (.ref st.length), some (.ref (st.length + 1)), none, none, none, none, none, none] ∧ st' = st ++ [.lst (F0.map pv), .lst (W.map wk)] ∧ okW R W ∧ (∀ P ∈ r, P ∈ pt t (List.range R.length)) ∧ wsz W + r.flatten.length ≤ R.length) _ ?_ ?_ ⟨[], rfl, by simp, by simp [okW], fun P hP => hP, by rw [show wsz [] = 0 from rfl]; omega⟩
  · rintro I hI P r σ st' ⟨W, rfl, rfl, hW, hm, hz⟩
    have hP := hm P List.mem_cons_self
    have hWl := okW_len hW
    simp at hz
    simp
    refine ⟨isL_ref (l := W.map wk) (by simp), ?_⟩
    refine wp_append (l := W.map wk) (by simp) (by simp only [List.length_map, SZ_lit]; omega) ?_
    simp [wipeA]
    refine hI _ _ _ ⟨W ++ [(P, none)], rfl, by simp [wk, pv], ?_, fun P' hP' => hm P' (List.mem_cons_of_mem _ hP'), ?_⟩
    · intro w hw
      rcases List.mem_append.mp hw with h | h
      · exact hW w h
      · simp at h
        subst h
        exact ⟨prt_pos _ _ P hP, pt_nodup hng hP, fun a ha => by simpa using all_sub hP a ha, fun h hh => by cases hh⟩
    · rw [wsz_app]
      simp only [wsz, List.map_cons, List.map_nil, List.sum_cons, List.sum_nil] at hz ⊢
      simp
      omega
  · rintro σ st' ⟨W, rfl, rfl, hW, hm, hz⟩
    simp [wipeA]
    refine wps_whileO (fun k σ st' => ∃ (W : List (List Nat × Pl)) (F : List Pl), σ = [some (rv R), some (fzT es), none, some (.ref st.length), some (.ref (st.length + 1)), none, none, none, none, none, none] ∧ st' = st ++ [.lst (F.map pv), .lst (W.map wk)] ∧ okW R W ∧ wsz W = k ∧ wsz W ≤ R.length ∧ F.length = R.length ∧ ∀ h, some h ∈ F → h.1 < R.length) ?_ (wsz W) ⟨W, F0, rfl, rfl, hW, rfl, by omega, hF0, fun h hh => absurd hh (hF0n h)⟩
    clear hW hm hz W
    rintro I hI k σ st' ⟨W, F, rfl, rfl, hW, hk, hz, hF, hFh⟩
    simp
    rw [wp_neRef (l := W.map wk) (by simp) dab_wks]
    rcases List.eq_nil_or_concat W with rfl | ⟨V, w, rfl⟩
    · simp
      rw [wp_tupR (l := F.map pv) (by simp)]
      exact Gc.pure (junk := [.lst (F.map pv), .lst []]) (by simp [cls_pvs]) rfl (q2 F hF hFh)
    · have hw := hW w (by simp)
      have hV : okW R V := fun v hv => hW v (by simp [hv])
      rw [List.concat_eq_append] at *
      rw [wsz_app] at hk hz
      have e1 : wsz [w] = w.1.length := by simp [wsz]
      rw [e1] at hk hz
      rw [show ((V ++ [w]).map wk).isEmpty = false by simp]
      simp
      refine ⟨isL_ref (l := (V ++ [w]).map wk) (by simp), ?_⟩
      refine wp_pop0 (l := V.map wk) (y := wk w) (by simp) ?_
      simp [wk]
      refine free_spec (.inr rfl) hR hT hw.2.1 hw.2.2.1 ?_
      simp
      rw [wp_eqNil dab_nvs]
      simp
      cases hG : (fre R t w.1).isEmpty with
      | true =>
        simp
        exact Gc.pure (junk := [.lst (F.map pv), .lst (V.map wk)]) (by simpa [tv] using cls_nvs) rfl (q1 _)
      | false =>
        have hG' : fre R t w.1 ≠ [] := fun e => by rw [e] at hG; simp at hG
        obtain ⟨u, hu, hat⟩ := last_nv hG'
        simp [hat]
        have hu1 : u ∈ w.1 := (List.mem_filter.mp hu).1
        have hu2 : freB R t w.1 u = true := (List.mem_filter.mp hu).2
        have hun := hw.2.2.1 u hu1
        refine wp_setL (l := F.map pv) (j := u) (by simp) (by simpa using ixN_nat (show u < F.length by omega)) ?_
        simp
        have hwl := nodup_bound _ _ hw.2.1 hw.2.2.1
        refine less_spec (.inr rfl) (by omega) ?_
        try simp
        have hll := les_len hw.2.1 hu1
        refine parts_spec rfl hT (by omega) (les_nodup hw.2.1) (fun y hy => hw.2.2.1 y (les_mem.mp hy).1) ?_
        simp
        have hpl2 := (pt_perm (t := t) (L := les w.1 u)).length_eq
        have eset : (F.map pv).set u (pv w.2) = (F.set u w.2).map pv := by rw [List.map_set]
        rw [eset]
        refine wps_forM (fun r σ st' => ∃ W' : List (List Nat × Pl), σ = [some (rv R), some (fzT es), some (tv w.1), some (.ref st.length), some (.ref (st.length + 1)), some (.lst ((fre R t w.1).map nv)), some (nv u), none, some (pv w.2), none, none] ∧ st' = st ++ [.lst ((F.set u w.2).map pv), .lst (W'.map wk)] ∧ okW R W' ∧ (∀ P ∈ r, P ∈ pt t (les w.1 u)) ∧ wsz W' + r.flatten.length ≤ wsz V + (les w.1 u).length) _ ?_ ?_ ⟨V, rfl, rfl, hV, fun P hP => hP, by omega⟩
        · rintro J hJ P r σ st' ⟨W', rfl, rfl, hW', hm', hz'⟩
          have hP := hm' P List.mem_cons_self
          have hPm : ∀ y ∈ P, y ∈ w.1 ∧ y ≠ u := fun y hy => les_mem.mp (all_sub hP y hy)
          have hPl := nodup_bound _ P (pt_nodup (les_nodup hw.2.1) hP) fun y hy => hw.2.2.1 y (hPm y hy).1
          have hWl := okW_len hW'
          simp only [List.flatten_cons, List.length_append] at hz'
          simp [nv]
          refine over_spec (.inr rfl) hR hT hun (by omega) (fun y hy => ⟨hw.2.2.1 y (hPm y hy).1, (hPm y hy).2⟩) ?_
          have hov : ovr R t u P ≠ [] := by
            unfold freB at hu2
            rw [List.all_eq_true] at hu2
            intro e
            have := hu2 P hP
            rw [e] at this
            simp at this
          obtain ⟨i, hi, hati⟩ := last_nv hov
          simp
          refine ⟨isL_ref (l := W'.map wk) (by simp), ?_⟩
          simp [hati]
          refine wp_append (l := W'.map wk) (by simp) (by simp only [List.length_map, SZ_lit]; omega) ?_
          simp [wipeA]
          refine hJ _ _ _ ⟨W' ++ [(P, some (u, i))], rfl, by simp [wk, pv, pp, nv], ?_, fun P' hP' => hm' P' (List.mem_cons_of_mem _ hP'), ?_⟩
          · intro v hv
            rcases List.mem_append.mp hv with h | h
            · exact hW' v h
            · simp at h
              subst h
              exact ⟨prt_pos _ _ P hP, pt_nodup (les_nodup hw.2.1) hP, fun a ha => hw.2.2.1 a (hPm a ha).1, fun h hh => by cases hh; exact hun⟩
          · rw [wsz_app]
            have : wsz [(P, some (u, i))] = P.length := by simp [wsz]
            omega
        · rintro σ st' ⟨W', rfl, rfl, hW', hm', hz'⟩
          simp [wipeA]
          simp at hz'
          refine ⟨wsz W', by omega, hI _ _ _ ⟨W', F.set u w.2, rfl, by rw [eset], hW', rfl, by omega, by simpa using hF, fun h hh => ?_⟩⟩
          rcases List.mem_or_eq_of_mem_set hh with z | z
          · exact hFh h z
          · exact hw.2.2.2 h z.symm
end
end Lib
set_option Elab.async false
set_option linter.all false
set_option maxRecDepth 100000
set_option maxHeartbeats 2000000
/-! LibX: drawn rooms, forests, sayings. -/
namespace Lib
open PySem PySem.Spec PyProof.Rows L2 DN
variable {Xp : EP}
section
variable {Q : PV → Store → Prop} {st : Store} {F : List Pl} {R : List Nat} {x y n s : Nat} {p f : PV}
/-- a draw as a Nat -/
theorem takeN {top : Nat} (hs : SrcAt st s) (h0 : 0 < top) (h1 : top < 1000000) (q : ∀ (i : Nat) st', i < top → Dr s st st' → Q (.int i) st') : (wpX Xp) (_law_take [.ref s, .int top] st) Q :=
  take_spec hs (by omega) (by simp only [B200_eq]; omega) fun i st' h2 h3 hd => by
    have := q i.toNat st' (by omega) hd
    rwa [show ((i.toNat : Nat) : Int) = i by omega] at this
theorem rooms_spec {m : Nat} (hs : SrcAt st s) (hm : m ≤ 1000) (q : ∀ R st', R.length = m → (∀ r ∈ R, r ≤ 4) → Dr s st st' → Q (rv R) st') : (wpX Xp) (_law_rooms [.ref s, .int m] st) Q := by
  refine wp_fn ?_
  simp [rgN hm]
  rw [rgP_nat]
  refine wp_lcM (fun (r : List Nat) acc st' => ∃ R : List Nat, acc = R.map nv ∧ R.length + r.length = m ∧ (∀ r ∈ R, r ≤ 4) ∧ Dr s st st') _ _ ?_ ?_ ⟨[], rfl, by simp, by simp, .refl⟩
  · rintro I hI k r acc st' ⟨R, rfl, hl, hR, hd⟩
    simp [wipeA]
    refine one_spec (hd.src hs) (by simp) (by simp) (by simp) fun v st2 hv hd2 => ?_
    have : ∃ c : Nat, v = nv c ∧ c ≤ 4 := by
      simp only [List.mem_cons, List.not_mem_nil, or_false] at hv
      rcases hv with rfl | rfl | rfl | rfl | rfl | rfl | rfl | rfl
      · exact ⟨1, rfl, by omega⟩
      · exact ⟨1, rfl, by omega⟩
      · exact ⟨2, rfl, by omega⟩
      · exact ⟨1, rfl, by omega⟩
      · exact ⟨0, rfl, by omega⟩
      · exact ⟨2, rfl, by omega⟩
      · exact ⟨3, rfl, by omega⟩
      · exact ⟨4, rfl, by omega⟩
    obtain ⟨c, rfl, hc⟩ := this
    refine hI _ _ _ ⟨R ++ [c], by simp, by simp at hl ⊢; omega, fun a ha => ?_, hd.trans hd2⟩
    rcases List.mem_append.mp ha with h | h
    · exact hR a h
    · simp at h; omega
  · rintro acc st' ⟨R, rfl, hl, hR, hd⟩
    simp at hl
    simp
    exact ⟨by omega, Gc.dr0 (s := s) (by simpa using cls_nvs) hd (q R st' hl hR hd)⟩
theorem two_spec (hs : SrcAt st s) (h2 : 2 ≤ R.length) (hz : R.length ≤ 1000) (q : ∀ (x y : Nat) st', x < R.length → y < R.length → x ≠ y → Dr s st st' → Q (.tup [.int x, .int y]) st') : (wpX Xp) (_law_two [.ref s, rv R] st) Q := by
  refine wp_fn ?_
  simp [rv]
  refine takeN hs (by omega) (by omega) fun x st1 hx hd => ?_
  simp
  have e : ((R.length : Int) - 1) = ((R.length - 1 : Nat) : Int) := by omega
  rw [e]
  refine takeN (hd.src hs) (by omega) (by omega) fun k st2 hk hd2 => ?_
  simp
  refine ⟨by omega, ?_⟩
  have e2 : ((x : Int) + 1 + k) % (R.length : Int) = (((x + 1 + k) % R.length : Nat) : Int) := by exact_mod_cast rfl
  rw [e2]
  refine Gc.dr0 (s := s) (by simp) (hd.trans hd2) (q x _ _ hx (Nat.mod_lt _ (by omega)) ?_ (hd.trans hd2))
  intro h
  by_cases hw : x + 1 + k < R.length
  · rw [Nat.mod_eq_of_lt hw] at h; omega
  · rw [Nat.mod_eq_sub_mod (by omega), Nat.mod_eq_of_lt (by omega)] at h; omega
theorem erase_map {α β : Type} {g : α → β} : ∀ {l : List α} {j : Nat}, (l.map g).eraseIdx j = (l.eraseIdx j).map g
  | [], j => by simp
  | a :: l, 0 => by simp
  | a :: l, j + 1 => by simp [erase_map (l := l)]
theorem erase_perm {α : Type} : ∀ {l : List α} {j : Nat} (h : j < l.length), (l[j] :: l.eraseIdx j).Perm l
  | a :: l, 0, _ => by simp
  | a :: l, j + 1, h => by
    have h' : j < l.length := by simpa using h
    have ih := erase_perm (l := l) (j := j) h'
    simp only [List.getElem_cons_succ, List.eraseIdx_cons_succ]
    exact (List.Perm.swap a l[j] _).trans (ih.cons a)
theorem mixed_spec {L : List Nat} {w : PV} (hw : w = .lst (L.map nv)) (hs : SrcAt st s) (hz : L.length ≤ 1000) (q : ∀ (M : List Nat) st', M.Perm L → Dr s st st' → Q (.lst (M.map nv)) st') : (wpX Xp) (_law_mixed [.ref s, w] st) Q := by
  subst hw
  refine wp_fn ?_
  have hlt := hs.lt
  simp [rgN hz]
  refine wps_forRo (fun i σ st' => ∃ (left found : List Nat) (x : Store), σ = [some (.ref s), some (.lst (L.map nv)), none, some (.ref st.length), some (.ref (st.length + 1))] ∧ st' = x ++ [.lst (left.map nv), .lst (found.map nv)] ∧ Dr s st x ∧ (found ++ left).Perm L ∧ (left.length : Int) + i = L.length ∧ 0 ≤ i) ?_ ?_ ⟨L, [], st, rfl, rfl, .refl, by simp, by omega, by omega⟩
  · rintro I hI i σ st' ⟨left, found, x, rfl, rfl, hd, hp, hl, hi0⟩ hi
    have hxl := hd.len
    simp
    refine ⟨isL_ref (l := found.map nv) (by rw [app_get hxl]; rfl), isL_ref (l := left.map nv) (by rw [app_get0 hxl]; rfl), ?_⟩
    rw [wp_lenR (l := left.map nv) (by rw [app_get0 hxl]; rfl)]
    simp
    refine takeN (hd.src hs).app (by omega) (by omega) fun j st2 hj hd2 => ?_
    obtain ⟨x2, rfl, hd3⟩ := Dr.app (by omega) hd2
    have hxl2 : x2.length = st.length := by rw [hd3.len, hxl]
    have hu : left[j]? = some left[j] := List.getElem?_eq_getElem hj
    refine wp_pop1 (l := left.map nv) (y := nv left[j]) (by rw [app_get0 hxl2]; rfl) (by rw [List.getElem?_map, hu]; rfl) (by omega) ?_
    rw [app_set0 hxl2]
    refine wp_append (l := found.map nv) (by rw [app_get hxl2]; rfl) ?_ ?_
    · have := hp.length_eq
      simp only [List.length_append] at this
      simp only [List.length_map, SZ_lit]
      omega
    · rw [app_set hxl2]
      simp [wipeA]
      refine hI _ _ _ ⟨left.eraseIdx j, found ++ [left[j]], x2, rfl, by rw [erase_map]; simp, hd.trans hd3, ?_, by rw [List.length_eraseIdx_of_lt hj]; omega, by omega⟩
      have h1 : (left[j] :: left.eraseIdx j).Perm left := erase_perm hj
      rw [List.append_assoc]
      exact (List.Perm.append_left found h1).trans hp
  · rintro i σ st' ⟨left, found, x, rfl, rfl, hd, hp, hl, hi0⟩ hi
    have : left = [] := List.length_eq_zero_iff.mp (by omega)
    subst this
    simp [wipeA]
    exact Gc.lst (s := s) (x := x) (junk := [.lst [], .lst (found.map nv)]) (n := st.length + 1) (l := found.map nv) cls_nvs hd rfl (by omega) (by rw [List.getElem?_append_right (by rw [hd.len]; omega), hd.len]; simp) (q found x (by simpa using hp) hd)
theorem noR_rank (hw : Wf F) (g : Nat → Nat) (h : ∀ (x : Nat) (q : Nat × Nat), up F x = some q → g q.1 < g x) : noR F := by
  have key : ∀ (k : Nat) (p : Pl) (m : Nat), (∀ q, p = some q → g q.1 < m) → ∀ a ∈ clb F k p, g a.1 < m := by
    intro k
    induction k with
    | zero => intro p m _ a ha; simp [clb] at ha
    | succ k ih =>
      intro p m hp a ha
      cases p with
      | none => simp [clb] at ha
      | some q =>
        have hq := hp q rfl
        simp only [clb, List.mem_cons] at ha
        rcases ha with rfl | ha
        · exact hq
        · exact ih _ m (fun q' hq' => Nat.lt_trans (h _ _ hq') hq) a ha
  intro x hx
  unfold inIt
  rw [List.any_eq_false]
  intro a ha
  have := key _ _ (g x) (fun q hq => h x q hq) a ha
  simp
  intro e
  rw [e] at this
  omega
theorem up_set {x y : Nat} {q : Pl} (hx : x < F.length) : up (F.set x q) y = if y = x then q else up F y := by
  unfold up
  by_cases h : y = x
  · subst h
    rw [if_pos rfl, List.getElem?_set_self hx]
    rfl
  · rw [if_neg h, List.getElem?_set_ne (fun e => h e.symm)]
/-- a forest, each holder ahead of what it holds -/
def okO (R : List Nat) (O : List Nat) (F : List Pl) (k : Nat) : Prop := ∀ (x : Nat) (q : Nat × Nat), up F x = some q → q.2 < rm R q.1 ∧ ∃ i j : Nat, i < j ∧ j < k ∧ O[j]? = some x ∧ O[i]? = some q.1
theorem cut_take {α : Type} {l : List α} {k : Nat} : cut l none (some (k : Int)) = l.take k := by
  simp only [cut, HT.sIx_none, HT.sIx_nat]
  simp
def pos : List Nat → Nat → Nat
  | [], _ => 0
  | a :: l, x => if a = x then 0 else pos l x + 1
theorem pos_at : ∀ {O : List Nat} {j x : Nat}, O.Nodup → O[j]? = some x → pos O x = j
  | [], _, _, _, h => by simp at h
  | a :: l, 0, x, _, h => by simp at h; simp [pos, h]
  | a :: l, j + 1, x, hn, h => by
    have h' : l[j]? = some x := by simpa using h
    have hm : x ∈ l := List.mem_of_getElem? h'
    have : a ≠ x := fun e => (List.nodup_cons.mp hn).1 (e ▸ hm)
    simp [pos, this, pos_at (List.nodup_cons.mp hn).2 h']
theorem grown_spec (hs : SrcAt st s) (hR : okR R) (q : ∀ F st', okF R F → noR F → Dr s st st' → Q (fv F) st') : (wpX Xp) (_law_grown [.ref s, rv R] st) Q := by
  refine wp_fn ?_
  have hlt := hs.lt
  have h24 := hR.1
  simp [rv, rgN (show R.length ≤ 1000 by omega)]
  rw [rgP_nat]
  refine wp_lcA nv _ (fun i hi => by simp [wipeA, nv]) ?_
  simp
  refine ⟨by omega, ?_⟩
  refine mixed_spec rfl hs (by simp; omega) fun O st1 hO hd => ?_
  have hOl := hO.length_eq
  simp at hOl
  have hOn : O.Nodup := hO.nodup_iff.mpr List.nodup_range
  have hOm : ∀ a ∈ O, a < R.length := fun a ha => by simpa using hO.subset ha
  simp [rgN (show R.length ≤ 1000 by omega)]
  refine wp_lcA (fun _ => .non) _ (fun i hi => by simp [wipeA]) ?_
  obtain ⟨F0, hF0, hF0n, e0⟩ : ∃ F0 : List Pl, F0.length = R.length ∧ (∀ h, some h ∉ F0) ∧ (List.range R.length).map (fun _ => PV.non) = F0.map pv := by
    refine ⟨List.replicate R.length none, by simp, by simp, ?_⟩
    rw [List.map_const']
    simp [pv]
  rw [e0]
  have hl1 := hd.len
  simp [hF0]
  refine ⟨by omega, rgN (by omega), ?_⟩
  refine wps_forRo (fun i σ st' => ∃ (k : Nat) (F : List Pl) (x : Store), i = (k : Int) ∧ k ≤ R.length ∧ σ = [some (.ref s), some (rv R), some (.lst (O.map nv)), some (.ref st.length), none, none, none, none, none] ∧ st' = x ++ [.lst (F.map pv)] ∧ Dr s st x ∧ F.length = R.length ∧ okO R O F k) ?_ ?_ ⟨0, F0, st1, rfl, by omega, by rw [← hl1]; rfl, rfl, hd, hF0, fun x q h => absurd (up_mem h) (hF0n q)⟩
  · rintro I hI i σ st' ⟨k, F, x, rfl, hk, rfl, rfl, hd, hF, hO2⟩ hi
    have hxl := hd.len
    have hkO : k < O.length := by omega
    have hOk : O[k]? = some O[k] := List.getElem?_eq_getElem hkO
    have huR : O[k] < R.length := hOm _ (List.getElem_mem hkO)
    generalize O[k] = u at hOk huR
    have skip : ∀ x', Dr s st x' → I ((k : Int) + 1) [some (.ref s), some (rv R), some (.lst (O.map nv)), some (.ref st.length), none, none, none, none, none] (x' ++ [.lst (F.map pv)]) := fun x' hd' => hI _ _ _ ⟨k + 1, F, x', by omega, by omega, rfl, rfl, hd', hF, fun a b h => by
      obtain ⟨h1, i, j, h2, h3, h4⟩ := hO2 a b h
      exact ⟨h1, i, j, h2, by omega, h4⟩⟩
    simp [cut_take]
    rw [← List.map_take]
    refine wp_lcF (fun y => decide (0 < rm R y)) nv _ (fun y hy => ?_) ?_
    · have hy' := hOm y (List.mem_of_mem_take hy)
      simp [wipeA, nv, rv, atI_rv hy']
    · have hfl := List.length_filter_le (fun y => decide (0 < rm R y)) (O.take k)
      have htl : (O.take k).length ≤ 24 := by simp; omega
      simp
      refine ⟨by omega, ?_⟩
      rw [wp_neNil dab_nvs]
      simp
      cases hG : ((O.take k).filter fun y => decide (0 < rm R y)).isEmpty with
      | true =>
        simp [wipeA]
        exact skip x hd
      | false =>
        have hG' : ((O.take k).filter fun y => decide (0 < rm R y)) ≠ [] := fun e => by rw [e] at hG; simp at hG
        generalize hGe : ((O.take k).filter fun y => decide (0 < rm R y)) = G at hfl hG'
        simp
        refine takeN (top := 4) (hd.src hs).app (by omega) (by omega) fun j st2 hj hd2 => ?_
        obtain ⟨x2, rfl, hd3⟩ := Dr.app (by omega) hd2
        simp
        by_cases hj0 : 0 < j
        · rw [cnd_pos (decide_eq_true (by omega))]
          refine one_spec ((hd.trans hd3).src hs).app (by simpa using hG') (by simp only [List.length_map, SZ_lit]; omega) cls_nvs fun v st3 hv hd4 => ?_
          obtain ⟨x3, rfl, hd5⟩ := Dr.app (by rw [hd3.len]; omega) hd4
          obtain ⟨h, hh, rfl⟩ := List.mem_map.mp hv
          rw [← hGe] at hh
          obtain ⟨hh1, hh2⟩ := List.mem_filter.mp hh
          have hh2 : 0 < rm R h := by simpa using hh2
          have hhR := hOm h (List.mem_of_mem_take hh1)
          have h4 := rm_le (x := h) hR
          simp [nv, rv, atI_rv hhR]
          refine takeN (((hd.trans hd3).trans hd5).src hs).app hh2 (by omega) fun r st4 hr hd6 => ?_
          obtain ⟨x4, rfl, hd7⟩ := Dr.app (by rw [hd5.len, hd3.len]; omega) hd6
          have hd8 := ((hd.trans hd3).trans hd5).trans hd7
          have hx4 := hd8.len
          try simp
          refine ⟨nv u, atI_nv hOk, ?_⟩
          refine wp_setL (l := F.map pv) (j := u) (by rw [app_get0 hx4]; rfl) (by simpa using ixN_nat (show u < F.length by omega)) ?_
          rw [app_set0 hx4]
          simp [wipeA]
          refine hI _ _ _ ⟨k + 1, F.set u (some (h, r)), x4, by omega, by omega, rfl, by rw [List.map_set]; rfl, hd8, by simpa using hF, fun a b hab => ?_⟩
          rw [up_set (by omega)] at hab
          by_cases hau : a = u
          · rw [if_pos hau] at hab
            cases hab
            subst hau
            obtain ⟨i, hi1, hi2⟩ := List.mem_iff_getElem.mp hh1
            simp at hi1
            refine ⟨hr, i, k, by omega, by omega, hOk, ?_⟩
            rw [List.getElem_take] at hi2
            rw [← hi2]
            exact List.getElem?_eq_getElem _
          · rw [if_neg hau] at hab
            obtain ⟨h1, i, j, h2, h3, h4⟩ := hO2 a b hab
            exact ⟨h1, i, j, h2, by omega, h4⟩
        · rw [cnd_neg (decide_eq_false (by omega))]
          simp [wipeA]
          exact skip x2 (hd.trans hd3)
  · rintro i σ st' ⟨k, F, x, rfl, hk, rfl, rfl, hd, hF, hO2⟩ hi
    have hxl := hd.len
    simp [wipeA]
    rw [wp_tupR (l := F.map pv) (by rw [app_get0 hxl]; rfl)]
    have hok : okF R F := ⟨hF, fun x hx h hh => by
      obtain ⟨h1, i, j, h2, h3, h4, h5⟩ := hO2 x h hh
      refine ⟨hOm _ (List.mem_of_getElem? h5), fun e => ?_, h1⟩
      have p1 := pos_at hOn h4
      have p2 := pos_at hOn h5
      rw [e] at p2
      omega⟩
    refine Gc.dr (s := s) (x := x) (junk := [.lst (F.map pv)]) (by simpa using cls_pvs) hd rfl (q F x hok (noR_rank hok.wf (pos O) fun x h hh => ?_) hd)
    obtain ⟨h1, i, j, h2, h3, h4, h5⟩ := hO2 x h hh
    rw [pos_at hOn h4, pos_at hOn h5]
    exact h2
end
end Lib
set_option Elab.async false
set_option linter.all false
set_option maxRecDepth 100000
set_option maxHeartbeats 2000000
/-! LibY: drawn sayings; a table lets what all its sayings let. -/
namespace Lib
open PySem PySem.Spec PyProof.Rows L2 DN
variable {Xp : EP}
section
variable {Q : PV → Store → Prop} {st : Store} {F : List Pl} {R : List Nat} {x y n s : Nat} {p f : PV}
theorem find_mem {F : List Pl} {x y : Nat} {h : Nat × Nat} (e : (clb F F.length (up F x)).find? (fun h => decide (h.1 = y)) = some h) : h ∈ clb F F.length (up F x) ∧ h.1 = y := ⟨List.mem_of_find?_eq_some e, by simpa using List.find?_some e⟩
theorem clb_room (hF : okF R F) : ∀ (k : Nat) (x : Nat), x < F.length → ∀ h ∈ clb F k (up F x), h.2 < rm R h.1 ∧ h.1 < F.length
  | 0, _, _, _, h => by simp [clb] at h
  | k + 1, x, hx, a, h => by
    cases u : up F x with
    | none => rw [u] at h; simp [clb] at h
    | some g =>
      rw [u] at h
      simp only [clb, List.mem_cons] at h
      have hg := hF.2 x hx g u
      rcases h with rfl | h
      · exact ⟨hg.2.2, by rw [hF.1]; exact hg.1⟩
      · exact clb_room hF k g.1 (by rw [hF.1]; exact hg.1) a h
theorem std_mem (hF : okF R F) (hx : x < F.length) (hy : y < F.length) : std F x y ∈ allS R x y := by
  unfold std
  split
  · rename_i h e
    obtain ⟨h1, h2⟩ := find_mem e
    have := clb_room hF _ x hx h h1
    rw [h2] at this
    simp [allS]
    exact this.1
  · split
    · rename_i h e
      obtain ⟨h1, h2⟩ := find_mem e
      have := clb_room hF _ y hy h h1
      rw [h2] at this
      simp [allS]
      exact this.1
    · simp [allS]
/-- y is around x -/
def Ar (F : List Pl) (x y : Nat) : Prop := ∃ h ∈ clb F F.length (up F x), h.1 = y
theorem clb_tail (hw : Wf F) (hn : noR F) : ∀ (k : Nat) (x : Nat), k ≤ F.length → x < F.length → ∀ h ∈ clb F k (up F x), ∀ g ∈ clb F F.length (up F h.1), g ∈ clb F F.length (up F x) := by
  -- a climb that ends is a suffix of the climb below it
  have suf : ∀ (k : Nat) (x m : Nat), x < F.length → ends F m (up F x) → ∀ h ∈ clb F k (up F x), ∀ (j : Nat), ∀ g ∈ clb F j (up F h.1), g ∈ clb F m (up F x) := by
    intro k
    induction k with
    | zero => intro x m _ _ h hh; simp [clb] at hh
    | succ k ih =>
      intro x m hx he h hh j g hg
      cases u : up F x with
      | none => rw [u] at hh; simp [clb] at hh
      | some q =>
        rw [u] at hh he
        cases m with
        | zero => simp [ends] at he
        | succ m =>
          have he' : ends F m (up F q.1) := by simpa [ends] using he
          have hq := hw q (up_mem u)
          simp only [clb, List.mem_cons] at hh ⊢
          have into : ∀ (j m : Nat) (p : Pl), ends F m p → ∀ g ∈ clb F j p, g ∈ clb F m p := by
            intro j
            induction j with
            | zero => intro m p _ g hg; simp [clb] at hg
            | succ j ihj =>
              intro m p he g hg
              cases p with
              | none => simp [clb] at hg
              | some a =>
                cases m with
                | zero => simp [ends] at he
                | succ m =>
                  simp only [clb, List.mem_cons] at hg ⊢
                  exact hg.imp id (ihj m _ (by simpa [ends] using he) g)
          rcases hh with rfl | hh
          · exact .inr (into j m _ he' g hg)
          · exact .inr (ih q.1 m hq he' h hh j g hg)
  intro k x hk hx h hh g hg
  exact suf k x _ hx (ends_all hw hn hx) h hh _ g hg
theorem ar_anti (hw : Wf F) (hn : noR F) (hx : x < F.length) (h1 : Ar F x y) (h2 : Ar F y x) : False := by
  obtain ⟨h, hh, rfl⟩ := h1
  obtain ⟨g, hg, e⟩ := h2
  have := clb_tail hw hn _ x (Nat.le_refl _) hx h hh g hg
  have z := hn x hx
  unfold inIt at z
  rw [List.any_eq_false] at z
  exact z g this (by simpa using e)
theorem std_turn (hw : Wf F) (hn : noR F) (hx : x < F.length) : std F y x = turn (std F x y) := by
  unfold std
  cases e1 : (clb F F.length (up F x)).find? fun h => decide (h.1 = y) with
  | some h =>
    obtain ⟨h1, h2⟩ := find_mem e1
    cases e2 : (clb F F.length (up F y)).find? fun h => decide (h.1 = x) with
    | some g =>
      obtain ⟨h3, h4⟩ := find_mem e2
      exact (ar_anti hw hn hx ⟨h, h1, h2⟩ ⟨g, h3, h4⟩).elim
    | none => simp [turn]
  | none =>
    cases e2 : (clb F F.length (up F y)).find? fun h => decide (h.1 = x) with
    | some g => simp [turn]
    | none => simp [turn]
/-- a forest holds all sayings just if it stands as the table lets -/
theorem kept_iff {S : List Sy} (hF : okF R F) (hn : noR F) (hS : ∀ s ∈ S, okSy R s) : (∀ x, x < F.length → ∀ y, y < x → std F x y ∈ tbl R S x y) ↔ ∀ s ∈ S, std F s.x s.y ∈ s.lot := by
  have hw := hF.wf
  constructor
  · intro h s hs
    obtain ⟨h1, h2, h3, h4⟩ := hS s hs
    rw [← hF.1] at h1 h2
    rcases Nat.lt_or_gt_of_ne h3 with z | z
    · have := h s.y h2 s.x z
      unfold tbl at this
      have := (List.mem_filter.mp this).2
      rw [List.all_eq_true] at this
      have := this s hs
      simp at this
      rw [std_turn (x := s.y) (y := s.x) hw hn h2]
      exact this.2
    · have := h s.x h1 s.y z
      unfold tbl at this
      have := (List.mem_filter.mp this).2
      rw [List.all_eq_true] at this
      have := this s hs
      simp at this
      exact this.1
  · intro h x hx y hy
    unfold tbl
    refine List.mem_filter.mpr ⟨std_mem hF hx (by omega), ?_⟩
    rw [List.all_eq_true]
    intro s hs
    have hs' := h s hs
    simp
    constructor
    · by_cases e : s.x = x ∧ s.y = y
      · right
        obtain ⟨rfl, rfl⟩ := e
        exact hs'
      · left
        omega
    · by_cases e : s.x = y ∧ s.y = x
      · right
        obtain ⟨rfl, rfl⟩ := e
        rw [← std_turn hw hn hx]
        exact hs'
      · left
        omega
/-! drawn sayings -/
theorem isA {z : Sd} : ∃ w r, sv z = .tup [.str w, r] := by cases z <;> exact ⟨_, _, rfl⟩
theorem saying_spec (hs : SrcAt st s) (hR : okR R) (h2 : 2 ≤ R.length) (hF : okF R F) (q : ∀ z st', okSy R z → Dr s st st' → Q (syv z) st') : (wpX Xp) (_law_saying [.ref s, rv R, fv F] st) Q := by
  refine wp_fn ?_
  have hlt := hs.lt
  have h24 := hR.1
  simp [rv]
  refine takeN hs (by omega) (by omega) fun x st1 hx hd => ?_
  simp
  have e : ((R.length : Int) - 1) = ((R.length - 1 : Nat) : Int) := by omega
  rw [e]
  refine takeN (hd.src hs) (by omega) (by omega) fun k st2 hk hd2 => ?_
  have e2 : ((x : Int) + 1 + k) % (R.length : Int) = (((x + 1 + k) % R.length : Nat) : Int) := by exact_mod_cast rfl
  have hxy : x ≠ (x + 1 + k) % R.length := by
    intro h
    by_cases hw : x + 1 + k < R.length
    · rw [Nat.mod_eq_of_lt hw] at h; omega
    · rw [Nat.mod_eq_sub_mod (by omega), Nat.mod_eq_of_lt (by omega)] at h; omega
  have hy : (x + 1 + k) % R.length < R.length := Nat.mod_lt _ (by omega)
  simp
  refine ⟨by omega, ?_⟩
  rw [e2]
  generalize (x + 1 + k) % R.length = y at hxy hy
  have hFl := hF.1
  refine standing_spec hF.wf (by omega) (by omega) (by omega) ?_
  refine takeN (top := 12) ((hd.trans hd2).src hs) (by omega) (by omega) fun j st3 hj hd3 => ?_
  have hd4 := (hd.trans hd2).trans hd3
  have hl4 := hd4.len
  simp
  refine every_spec hR hx hy ?_
  simp
  refine wps_forM (fun r σ st' => ∃ (D L : List Sd) (x' : Store), σ = [some (.ref s), some (rv R), some (fv F), some (.int x), some (.int y), none, some (sv (std F x y)), some (.bl (decide (0 < j))), some (.ref st.length), none] ∧ st' = x' ++ [.lst (L.map sv)] ∧ Dr s st x' ∧ allS R x y = D ++ r ∧ L.Sublist D) _ ?_ ?_ ⟨[], [], st3, by simp [hl4, rv, nv], rfl, hd4, rfl, .slnil⟩
  · rintro I hI z r σ st' ⟨D, L, x', rfl, rfl, hd5, e3, hsub⟩
    have hl5 := hd5.len
    obtain ⟨w, v, ew⟩ := isA (z := z)
    have hLl : L.length ≤ 9 := by
      have := (hsub.trans (List.sublist_append_left D (z :: r))).length_le
      rw [← e3] at this
      exact Nat.le_trans this (allS_len hR)
    have skip : ∀ x2, Dr s st x2 → I r [some (.ref s), some (rv R), some (fv F), some (.int x), some (.int y), none, some (sv (std F x y)), some (.bl (decide (0 < j))), some (.ref st.length), none] (x2 ++ [.lst (L.map sv)]) := fun x2 h => hI _ _ _ ⟨D ++ [z], L, x2, rfl, rfl, h, by rw [e3]; simp, hsub.trans (List.sublist_append_left _ _)⟩
    have put : ∀ x2, Dr s st x2 → I r [some (.ref s), some (rv R), some (fv F), some (.int x), some (.int y), none, some (sv (std F x y)), some (.bl (decide (0 < j))), some (.ref st.length), none] (x2 ++ [.lst ((L ++ [z]).map sv)]) := fun x2 h => hI _ _ _ ⟨D ++ [z], L ++ [z], x2, rfl, rfl, h, by rw [e3]; simp, hsub.append (List.Sublist.refl _)⟩
    have ix : ∀ (Y : EP) (Q : PV → Store → Prop) st, wpX Y (pIx (sv z) (.int 0) st) Q = Q (.str w) st := fun Y Q st => by rw [ew]; simp
    simp [ix]
    refine ⟨fun _ => ?_, fun _ => ?_⟩
    all_goals
      refine take_spec (hd5.src hs).app (by omega) (by simp only [B200_eq]; omega) fun i st4 hi1 hi2 hd6 => ?_
      obtain ⟨x2, rfl, hd7⟩ := Dr.app (by omega) hd6
      have hd8 := hd5.trans hd7
      have hl8 := hd8.len
      have app : ∀ (σ : AE) (h : wipeA σ [5, 9] = [some (.ref s), some (rv R), some (fv F), some (.int x), some (.int y), none, some (sv (std F x y)), some (.bl (decide (0 < j))), some (.ref st.length), none]), wpX (gx st Xp) (mAppend (.ref st.length) [sv z] (x2 ++ [.lst (L.map sv)])) fun _ st' => I r (wipeA σ [5, 9]) st' := fun σ h => by
        refine wp_append (l := L.map sv) (by rw [app_get0 hl8]; rfl) (by simp only [List.length_map, SZ_lit]; omega) ?_
        rw [app_set0 hl8, h]
        simpa using put x2 hd8
      have il : isL (.ref st.length) (x2 ++ [SO.lst (L.map sv)]) = true := isL_ref (l := L.map sv) (by rw [app_get0 hl8]; rfl)
      simp
      refine ⟨fun _ => ⟨il, app _ (by simp [wipeA])⟩, fun _ => ⟨fun _ => ?_, fun _ => ?_⟩⟩
      · rw [wp_eqD (dpv_sv (by omega)) (dpv_sv (by omega))]
        simp
        refine ⟨fun _ => ⟨il, app _ (by simp [wipeA])⟩, fun _ => ?_⟩
        simp [wipeA]
        exact skip x2 hd8
      · simp [wipeA]
        exact skip x2 hd8
  · rintro σ st' ⟨D, L, x', rfl, rfl, hd5, e3, hsub⟩
    have hl5 := hd5.len
    simp [wipeA]
    rw [wp_tupR (l := L.map sv) (by rw [app_get0 hl5]; rfl)]
    refine Gc.dr (s := s) (x := x') (junk := [.lst (L.map sv)]) (by simpa using cl_svs) hd5 rfl ?_
    exact q ⟨x, y, L⟩ x' ⟨hx, hy, hxy, by simpa [e3] using hsub⟩ hd5
theorem cl_syv {z : Sy} : cl (syv z) = true := by simpa [syv] using cl_svs
theorem cls_syvs {S : List Sy} : cls (S.map syv) = true := cls_iff.mpr fun p hp => by
  obtain ⟨z, _, rfl⟩ := List.mem_map.mp hp
  exact cl_syv
theorem dab_syv {z : Sy} {m : Nat} (h : 3 ≤ m) : dab m (syv z) = true := by
  obtain ⟨m, rfl⟩ : ∃ k, m = k + 3 := ⟨m - 3, by omega⟩
  simp [syv, dab]
  intro s _
  exact dab_sv (by omega)
theorem sayings_spec {m : Nat} (hs : SrcAt st s) (hR : okR R) (hm : m ≤ 900) (q : ∀ (S : List Sy) st', (∀ z ∈ S, okSy R z) → S.length ≤ m → Dr s st st' → Q (.lst (S.map syv)) st') : (wpX Xp) (_law_sayings [.ref s, rv R, .int m] st) Q := by
  refine wp_fn ?_
  simp
  refine grown_spec hs hR fun F st1 hF hn hd => ?_
  simp [rv]
  by_cases h2 : R.length < 2
  · rw [cnd_pos (decide_eq_true (by omega))]
    exact Gc.dr0 (s := s) (by simp) hd (q [] st1 (by simp) (by simp) hd)
  · rw [cnd_neg (decide_eq_false (by omega))]
    have e : ((m : Int) + 1) = ((m + 1 : Nat) : Int) := by omega
    rw [e]
    refine takeN (hd.src hs) (by omega) (by omega) fun k st2 hk hd2 => ?_
    simp
    refine ⟨rgN (by omega), ?_⟩
    rw [rgP_nat]
    have hd3 := hd.trans hd2
    refine wp_lcM (fun (r : List Nat) acc st' => ∃ S : List Sy, acc = S.map syv ∧ S.length + r.length = k ∧ (∀ z ∈ S, okSy R z) ∧ Dr s st st') _ _ ?_ ?_ ⟨[], rfl, by simp, by simp, hd3⟩
    · rintro I hI i r acc st' ⟨S, rfl, hl, hS, hd4⟩
      simp [wipeA]
      refine saying_spec (hd4.src hs) hR (by omega) hF fun z st3 hz hd5 => ?_
      refine hI _ _ _ ⟨S ++ [z], by simp, by simp at hl ⊢; omega, fun a ha => ?_, hd4.trans hd5⟩
      rcases List.mem_append.mp ha with h | h
      · exact hS a h
      · simp at h; subst h; exact hz
    · rintro acc st' ⟨S, rfl, hl, hS, hd4⟩
      simp at hl
      simp
      exact ⟨by omega, Gc.dr0 (s := s) (by simpa using cls_syvs) hd4 (q S st' hS (by omega) hd4)⟩
theorem wp_neBB {a b : Bool} : (wpX Xp) (pNe (.bl a) (.bl b) st) Q = Q (.bl (!decide (a = b))) st := by
  have h : ∀ a : Bool, SeqAt.shaped (.bool a) = true := fun a => shaped_of (by simp [PyData.canLay0]) (by simp [PyData.depth])
  have e : PyData.eqv (.bool a) (.bool b) = decide (a = b) := by cases a <;> cases b <;> rfl
  simp only [pNe, pEqB, toD, toD0, h, e, and_self, if_true, Res.bind, wp_ok]
end
end Lib
set_option Elab.async false
set_option linter.all false
set_option maxRecDepth 100000
set_option maxHeartbeats 2000000
/-! LibZ: what the program's own functions of books tell. -/
namespace Lib
open PySem PySem.Spec PyProof.Rows L2 DN
variable {Xp : EP}
section
variable {Q : PV → Store → Prop} {st : Store} {R : List Nat} {S : List Sy} {x y n s : Nat} {p f : PV}
theorem made_rooms_spec (hR : okR R) (q : Q (rv R) st) : (wpX Xp) (made_rooms [rv R] st) Q := by
  refine wp_fn ?_
  have h24 := hR.1
  have hd : dab 20 (.tup (R.map nv)) = true := dab_rv
  simp [rv, wp_isTup hd, isTp]
  rw [cnd_neg (decide_eq_false (by omega))]
  refine wps_forLo (fun m σ st' => ∃ i r, m = DN.numbered i (r.map nv) ∧ σ = [some (.tup (R.map nv)), none, none] ∧ st = st' ∧ (∀ a ∈ r, a ≤ 4)) _ ?_ ?_ ⟨0, R, rfl, rfl, rfl, hR.2⟩
  · rintro I hI p m σ st' ⟨i, r, e, rfl, rfl, hm⟩
    cases r with
    | nil => cases e
    | cons a r =>
      simp only [List.map_cons, DN.numbered, List.cons.injEq] at e
      obtain ⟨rfl, rfl⟩ := e
      have h4 := hm a (by simp)
      simp
      refine whole_spec (by simp [nv, dab]) ?_
      simp [nv, isWh]
      rw [cnd_pos (decide_eq_true (show (a : Int) ≤ 4 by omega))]
      simp [wipeA]
      exact hI _ _ _ ⟨_, _, rfl, rfl, rfl, fun p hp => hm p (List.mem_cons_of_mem _ hp)⟩
  · rintro σ st' ⟨i, r, e, rfl, rfl, hm⟩
    cases r with
    | nil =>
      simp [wipeA]
      refine Gc.same (dab_cl hd) q
    | cons a r => cases e
theorem made_book_spec {l : List PV} (hR : okR R) (hl : l.length ≤ 400) (hd : dab 18 (.tup l) = true) (q1 : fw R 0 l = none → Q (.tup [rv R, .tup l]) st) (q2 : ∀ i, fw R 0 l = some i → Xp ("BadSaying" : Str) (.int (i : Nat)) st) : (wpX Xp) (made_book [.tup [rv R, .tup l]] st) Q := by
  refine wp_fn ?_
  have hdR : dab 18 (rv R) = true := dab_rv
  have hdB : dab 20 (.tup [rv R, .tup l]) = true := dab_mono (n := 19) (by omega) (by
    simp only [dab, List.all_cons, List.all_nil, hdR, Bool.and_true, Bool.true_and] at hd ⊢
    exact hd)
  simp
  refine pair_spec hdB ?_
  simp [pairB]
  refine made_rooms_spec hR ?_
  simp [wp_isTup hd, isTp]
  rw [cnd_neg (decide_eq_false (by omega))]
  refine first_wrong_spec hR (fun p hp => dab_mono (n := 17) (by omega) (dab_one hd hp)) ?_
  cases h : fw R 0 l with
  | none =>
    simp [ov]
    exact Gc.same (dab_cl hdB) (q1 h)
  | some i =>
    simp [ov]
    exact Gc.same (by simp) (q2 i h)
theorem want_thing_spec {i : Int} (q1 : (0 ≤ i ∧ i < R.length) → Q .non st) (q2 : ¬ (0 ≤ i ∧ i < R.length) → Xp ("BadThing" : Str) (.int i) st) : (wpX Xp) (want_thing [rv R, .int i] st) Q := by
  refine wp_fn ?_
  simp
  refine thing_spec (by simp [dab]) ?_
  by_cases h : 0 ≤ i ∧ i < R.length
  · simp [nmB, h]
    exact Gc.same (by simp) (q1 h)
  · have : (decide (0 ≤ i) && decide (i < (R.length : Int))) = false := by
      rw [← Bool.decide_and]; exact decide_eq_false h
    simp only [nmB, this]
    simp
    exact Gc.same (by simp) (q2 h)
/-- which of two numbers is a wrong thing -/
def wrong (n : Nat) (i j : Int) : Option Int := if ¬ (0 ≤ i ∧ i < n) then some i else if ¬ (0 ≤ j ∧ j < n) ∨ i = j then some j else none
theorem want_pair_spec {i j : Int} (q1 : wrong R.length i j = none → Q .non st) (q2 : ∀ w, wrong R.length i j = some w → Xp ("BadThing" : Str) (.int w) st) : (wpX Xp) (want_pair [rv R, .int i, .int j] st) Q := by
  refine wp_fn ?_
  simp
  refine want_thing_spec (fun h1 => ?_) (fun h1 => ?_)
  · refine want_thing_spec (fun h2 => ?_) (fun h2 => ?_)
    · try simp
      by_cases h3 : i = j
      · rw [cnd_pos (decide_eq_true h3)]
        exact Gc.same (by simp) (q2 j (by simp [wrong, h1, h2, h3] <;> omega))
      · rw [cnd_neg (decide_eq_false h3)]
        exact Gc.same (by simp) (q1 (by simp [wrong, h1, h2, h3]))
    · exact Gc.same (by simp) (q2 j (by simp only [wrong]; rw [if_neg (by omega), if_pos (by omega)]))
  · exact Gc.same (by simp) (q2 i (by simp only [wrong]; rw [if_pos h1]))
theorem common_spec {A B : List Sd} (hA : A.length ≤ 1000) (q : Q (.tup ((A.filter fun s => decide (s ∈ B)).map sv)) st) : (wpX Xp) (common_lets [.tup (A.map sv), .tup (B.map sv)] st) Q := by
  refine wp_fn ?_
  simp
  refine wp_lcF (fun s => decide (s ∈ B)) sv _ (fun s _ => by simp [wipeA, wp_inSvT]) ?_
  have l1 := fill_len (f := fun s => decide (s ∈ B)) hA
  simp
  refine ⟨by omega, ?_⟩
  exact Gc.same (by simp only [cl_tup]; exact cl_svs) q
theorem turned_sp {z : Sd} (q : Q (sv (turn z)) st) : (wpX Xp) (turned [sv z] st) Q := by
  refine wp_fn ?_
  cases z <;> simp [sv, turn] at q ⊢
  · rw [wp_gd (u := ("apart" : Str)) (by rfl)]
    try simp
    exact Gc.same (by simp) q
  · rw [wp_gd (u := ("around" : Str)) (by rfl)]
    try simp
    exact Gc.same (by simp) q
  · rw [wp_gd (u := ("in" : Str)) (by rfl)]
    try simp
    exact Gc.same (by simp) q
theorem turned_lets_sp {L : List Sd} (hL : L.length ≤ 1000) (q : ∀ M : List Sd, M.length ≤ 3000 → (∀ s, s ∈ M ↔ turn s ∈ L) → Q (.tup (M.map sv)) st) : (wpX Xp) (turned_lets [.tup (L.map sv)] st) Q := by
  refine wp_fn ?_
  have h1 : (("apart" : Str) = ("in" : Str)) = False := eq_false (by decide +kernel)
  have h2 : (("apart" : Str) = ("around" : Str)) = False := eq_false (by decide +kernel)
  have h3 : (("in" : Str) = ("apart" : Str)) = False := eq_false (by decide +kernel)
  have h4 : (("in" : Str) = ("around" : Str)) = False := eq_false (by decide +kernel)
  have h5 : (("around" : Str) = ("apart" : Str)) = False := eq_false (by decide +kernel)
  have h6 : (("around" : Str) = ("in" : Str)) = False := eq_false (by decide +kernel)
  let f1 : Sd → Bool := fun s => match s with | .ap => true | _ => false
  let f2 : Sd → Bool := fun s => match s with | .aro _ => true | _ => false
  let f3 : Sd → Bool := fun s => match s with | .inn _ => true | _ => false
  simp
  refine wp_lcF f1 sv _ (fun s _ => by cases s <;> simp [wipeA, sv, f1, h1, h2, h3, h4, h5, h6]) ?_
  have l1 := fill_len (f := f1) hL
  have l2 := fill_len (f := f2) hL
  have l3 := fill_len (f := f3) hL
  simp
  refine ⟨by omega, ?_⟩
  refine wp_lcF f2 (fun s => sv (turn s)) _ (fun s _ => by
    cases s <;> simp [wipeA, sv, f2, h1, h2, h3, h4, h5, h6]
    exact turned_sp (z := .aro _) ⟨rfl, rfl⟩) ?_
  simp
  refine ⟨by omega, ?_⟩
  refine wp_lcF f3 (fun s => sv (turn s)) _ (fun s _ => by
    cases s <;> simp [wipeA, sv, f3, h1, h2, h3, h4, h5, h6]
    exact turned_sp (z := .inn _) ⟨rfl, rfl⟩) ?_
  simp
  refine ⟨by omega, by omega, by omega, ?_⟩
  have e : (L.filter f1).map sv ++ ((L.filter f2).map (fun s => sv (turn s)) ++ (L.filter f3).map (fun s => sv (turn s))) = (L.filter f1 ++ ((L.filter f2).map turn ++ (L.filter f3).map turn)).map sv := by simp [Function.comp_def]
  rw [e]
  refine Gc.same (by simp only [cl_tup]; exact cl_svs) (q _ (by simp; omega) fun s => ?_)
  simp only [List.mem_append, List.mem_filter, List.mem_map]
  cases s with
  | ap => simp [f1, f2, f3, turn]; rintro (⟨z, h, e⟩ | ⟨z, h, e⟩) <;> (rcases z with _ | _ | _ <;> simp [turn] at h e)
  | inn r =>
    simp [f1, f2, f3, turn]
    constructor
    · rintro (⟨z, h, e⟩ | ⟨z, h, e⟩)
      · rcases z with _ | _ | _ <;> simp [turn] at h e
        subst e; exact h
      · rcases z with _ | _ | _ <;> simp [turn] at h e
    · exact fun h => .inl ⟨_, ⟨h, rfl⟩, rfl⟩
  | aro r =>
    simp [f1, f2, f3, turn]
    constructor
    · rintro (⟨z, h, e⟩ | ⟨z, h, e⟩)
      · rcases z with _ | _ | _ <;> simp [turn] at h e
      · rcases z with _ | _ | _ <;> simp [turn] at h e
        subst e; exact h
    · exact fun h => .inr ⟨_, ⟨h, rfl⟩, rfl⟩
theorem cnd_and {a b : Prop} [Decidable a] [Decidable b] {X Y : Prop} (h : ¬ (a ∧ b)) (y : Y) : cnd (decide a) (cnd (decide b) X Y) Y := by
  by_cases ha : a
  · rw [cnd_pos (decide_eq_true ha), cnd_neg (decide_eq_false fun hb => h ⟨ha, hb⟩)]; exact y
  · rw [cnd_neg (decide_eq_false ha)]; exact y
theorem lets_of_sp (hB : okB R S) (hx : x < R.length) (hy : y < R.length) (hxy : x ≠ y) (q : Q (.tup ((Lib.tbl R S x y).map sv)) st) : (wpX Xp) (lets_of [bv R S, .int x, .int y] st) Q := by
  refine wp_fn ?_
  have hR := hB.1
  simp [bv]
  refine all_standings_spec hR hx hy ?_
  try simp
  refine wps_forM (fun r σ st' => ∃ D : List Sy, σ = [some (.tup [rv R, .tup (S.map syv)]), some (.int x), some (.int y), some (.tup ((Lib.tbl R D x y).map sv)), some (rv R), some (.tup (S.map syv)), none, none, none] ∧ st = st' ∧ S = D ++ r) _ ?_ ?_ ⟨[], by rw [tbl_nil], rfl, rfl⟩
  · rintro I hI z r σ st' ⟨D, rfl, rfl, e⟩
    obtain ⟨h1, h2, h3, h4⟩ := hB.2.2 z (by rw [e]; simp)
    have hzl : z.lot.length ≤ 9 := Nat.le_trans h4.length_le (allS_len hR)
    have hl := tbl_len (x := x) (y := y) hR (S := D)
    have goal : ∀ L : List Sd, L = Lib.tbl R (D ++ [z]) x y → ∃ D : List Sy, [some (.tup [rv R, .tup (S.map syv)]), some (.int x), some (.int y), some (.tup (L.map sv)), some (rv R), some (.tup (S.map syv)), none, none, none] = [some (.tup [rv R, .tup (S.map syv)]), some (.int x), some (.int y), some (.tup ((Lib.tbl R D x y).map sv)), some (rv R), some (.tup (S.map syv)), none, none, none] ∧ st = st ∧ S = D ++ r := fun L hL => ⟨D ++ [z], by rw [hL], rfl, by rw [e]; simp⟩
    simp [syv]
    by_cases c1 : z.x = x ∧ z.y = y
    · obtain ⟨rfl, rfl⟩ := c1
      simp
      refine common_spec (by omega) ?_
      simp [wipeA]
      refine hI _ _ _ (goal _ ?_)
      rw [tbl_snoc]
      congr 1
      funext s
      have : ¬ z.y = z.x := fun h => hxy h.symm
      simp [hxy]
    · refine cnd_and (by omega) ?_
      by_cases c2 : z.x = y ∧ z.y = x
      · obtain ⟨rfl, rfl⟩ := c2
        simp
        refine turned_lets_sp (by omega) fun M hM1 hM2 => ?_
        try simp
        refine common_spec (by omega) ?_
        simp [wipeA]
        refine hI _ _ _ (goal _ ?_)
        rw [tbl_snoc]
        congr 1
        funext s
        have : ¬ z.y = z.x := fun h => hxy h
        simp [hM2, this]
      · refine cnd_and (by omega) ?_
        simp [wipeA]
        refine hI _ _ _ (goal _ ?_)
        rw [tbl_snoc]
        have : ∀ s : Sd, ((!(decide (z.x = x) && decide (z.y = y)) || decide (s ∈ z.lot)) && (!(decide (z.x = y) && decide (z.y = x)) || decide (turn s ∈ z.lot))) = true := fun s => by
          rw [← Bool.decide_and, ← Bool.decide_and, decide_eq_false c1, decide_eq_false c2]
          rfl
        simp only [this]
        exact (List.filter_eq_self.mpr fun _ _ => rfl).symm
  · rintro σ st' ⟨D, rfl, rfl, e⟩
    have : D = S := by rw [e]; simp
    subst this
    simp [wipeA]
    exact Gc.same (by simp only [cl_tup]; exact cl_svs) q
theorem let_sp {l : List PV} {i j : Int} (hR : okR R) (hl : l.length ≤ 400) (hd : dab 18 (.tup l) = true)
    (q : ∀ (S : List Sy) (x y : Nat), l = S.map syv → okB R S → i = x → j = y → x < R.length → y < R.length → x ≠ y → Q (.tup ((Lib.tbl R S x y).map sv)) st)
    (q1 : ∀ k, fw R 0 l = some k → Xp ("BadSaying" : Str) (.int (k : Nat)) st)
    (q2 : ∀ w, fw R 0 l = none → wrong R.length i j = some w → Xp ("BadThing" : Str) (.int w) st) : (wpX Xp) (let_ [.tup [rv R, .tup l], .int i, .int j] st) Q := by
  refine wp_fn ?_
  simp
  refine made_book_spec hR hl hd (fun h => ?_) (fun k h => Gc.same (by simp) (q1 k h))
  simp
  refine want_pair_spec (fun hw => ?_) (fun w hw => Gc.same (by simp) (q2 w h hw))
  obtain ⟨S, rfl, hS⟩ := fw_none.mp h
  have hB : okB R S := ⟨hR, by simpa using hl, hS⟩
  have h1 : (0 ≤ i ∧ i < R.length) ∧ (0 ≤ j ∧ j < R.length) ∧ i ≠ j := by
    unfold wrong at hw
    split at hw
    · cases hw
    · split at hw
      · cases hw
      · omega
  obtain ⟨x, rfl⟩ := Int.eq_ofNat_of_zero_le h1.1.1
  obtain ⟨y, rfl⟩ := Int.eq_ofNat_of_zero_le h1.2.1.1
  have hx : x < R.length := by omega
  have hy : y < R.length := by omega
  have hxy : x ≠ y := by omega
  try simp
  refine lets_of_sp hB hx hy hxy ?_
  exact Gc.same (by simp only [cl_tup]; exact cl_svs) (q S x y rfl hB rfl rfl hx hy hxy)
theorem dab_says (hS : ∀ s ∈ S, okSy R s) : dab 18 (.tup (S.map syv)) = true := by
  simp [dab]
  exact fun z _ => dab_syv (by omega)
theorem syv_inj {a b : Sy} (h : syv a = syv b) : a = b := by
  simp only [syv, PV.tup.injEq, List.cons.injEq, and_true, PV.int.injEq] at h
  obtain ⟨a1, a2, a3⟩ := h
  have a3 := (List.map_inj_right (fun _ _ => sv_inj)).mp a3
  obtain ⟨ax, ay, al⟩ := a
  obtain ⟨bx, bY, bl⟩ := b
  simp only at a1 a2 a3
  have a1 : ax = bx := by omega
  have a2 : ay = bY := by omega
  rw [a1, a2, a3]
theorem let_ok (hB : okB R S) (hx : x < R.length) (hy : y < R.length) (hxy : x ≠ y) (q : Q (.tup ((Lib.tbl R S x y).map sv)) st) : (wpX Xp) (let_ [bv R S, .int x, .int y] st) Q := by
  have hn : fw R 0 (S.map syv) = none := fw_none.mpr ⟨S, rfl, hB.2.2⟩
  refine let_sp hB.1 (by simpa using hB.2.1) (dab_says hB.2.2) (fun S' x' y' e _ e1 e2 _ _ _ => ?_) (fun k h => ?_) (fun w _ h => ?_)
  · have : S = S' := (List.map_inj_right (fun a b h => syv_inj h)).mp e
    have : x = x' := by omega
    have : y = y' := by omega
    subst_vars
    exact q
  · rw [hn] at h; cases h
  · unfold wrong at h
    rw [if_neg (by omega), if_neg (by omega)] at h
    cases h
theorem cut_drop {α : Type} {l : List α} {k : Nat} : cut l (some (k : Int)) none = l.drop k := by
  simp only [cut, HT.sIx_none, HT.sIx_nat]
  by_cases h : k ≤ l.length
  · rw [Nat.min_eq_left h, List.take_of_length_le (by simp)]
  · rw [Nat.min_eq_right (by omega), List.drop_of_length_le (by omega : l.length ≤ k)]
    simp
theorem other_spec {m : Nat} (hs : SrcAt st s) (h2 : 2 ≤ m) (hm : m ≤ 1000) (hx : x < m) (q : ∀ (y : Nat) st', y < m → x ≠ y → Dr s st st' → Q (.int y) st') : (wpX Xp) (_law_other [.ref s, .int x, .int m] st) Q := by
  refine wp_fn ?_
  try simp
  have e : ((m : Int) - 1) = ((m - 1 : Nat) : Int) := by omega
  rw [e]
  refine takeN hs (by omega) (by omega) fun i st' hi hd => ?_
  try simp
  refine ⟨by omega, ?_⟩
  have e2 : ((x : Int) + 1 + i) % m = (((x + 1 + i) % m : Nat) : Int) := by simp
  rw [e2]
  refine Gc.dr0 (by simp) hd (q _ _ (Nat.mod_lt _ (by omega)) ?_ hd)
  by_cases h : x + 1 + i < m
  · rw [Nat.mod_eq_of_lt h]; omega
  · rw [Nat.mod_eq_sub_mod (by omega), Nat.mod_eq_of_lt (by omega)]; omega
theorem lot_spec (hs : SrcAt st s) (hR : okR R) (hx : x < R.length) (hy : y < R.length) (q : ∀ (L : List Sd) st', L.Sublist (allS R x y) → Dr s st st' → Q (.tup (L.map sv)) st') : (wpX Xp) (_law_lot [.ref s, rv R, .int x, .int y] st) Q := by
  refine wp_fn ?_
  have hl := allS_len (x := x) (y := y) hR
  have fin : ∀ (L : List Sd) st', L.Sublist (allS R x y) → Dr s st st' → Gc st (.tup (L.map sv)) st' Q := fun L st' h hd => Gc.dr0 (by simp only [cl_tup]; exact cl_svs) hd (q L st' h hd)
  simp
  refine every_spec hR hx hy ?_
  refine takeN (top := 8) hs (by omega) (by omega) fun k st1 hk hd => ?_
  simp
  refine ⟨fun h3 => ?_, fun h3 => ?_⟩
  · have h3 : k = 0 ∨ k = 1 ∨ k = 2 := by have := of_decide_eq_true h3; omega
    rcases h3 with rfl | rfl | rfl
    · simp; exact fin [] _ (by simp) hd
    · simp; exact fin _ _ (List.Sublist.refl _) hd
    · simp
      have e : cut ((allS R x y).map sv) (some 1) none = ((allS R x y).drop 1).map sv := by
        rw [show (some (1 : Int)) = some ((1 : Nat) : Int) from rfl, cut_drop]
        simp
      rw [e]
      exact fin _ _ (List.drop_sublist _ _) hd
  · refine wp_lcM (g := sv) (fun r acc st' => ∃ D : List Sd, acc = D.map sv ∧ (D ++ r).Sublist (allS R x y) ∧ Dr s st st') _ _ ?_ ?_ ⟨[], rfl, List.Sublist.refl _, hd⟩
    · rintro I hI z r acc st' ⟨D, rfl, hD, hd2⟩
      simp [wipeA]
      refine takeN (top := 2) (hd2.src hs) (by omega) (by omega) fun b st2 hb hd3 => ?_
      simp
      refine ⟨fun _ => ?_, fun _ => ?_⟩
      · exact hI _ _ _ ⟨D ++ [z], by simp, by simpa using hD, hd2.trans hd3⟩
      · exact hI _ _ _ ⟨D, rfl, List.Sublist.trans (by simp) hD, hd2.trans hd3⟩
    · rintro acc st' ⟨D, rfl, hD, hd2⟩
      have := hD.length_le
      simp at this
      simp
      exact ⟨by omega, fin _ _ (by simpa using hD) hd2⟩
theorem gc_tupL {x junk st' : Store} {n : Nat} {v : PV} {l : List PV} (hv : DN.cl v = true) (hc : cls l = true) (h : Dr s st x) (e : st' = x ++ junk) (hn : st.length ≤ n) (hl : st'[n]? = some (.lst l)) (q : Q (.tup [v, .lst l]) x) : Gc st (.tup [v, .ref n]) st' Q := by
  subst e
  refine ⟨.tup [v, .lst l], x, ?_, gcS_dr h, q⟩
  simp only [clip, mapV, mapVs, mapV_cl hv, clipR, if_neg (Nat.not_lt.mpr hn), hl, mapVs_cl hc, Option.map_some, Option.bind_some]
theorem wp_pick {c : DB} {i j m : Nat} {σ : AE} {F : PV → Store → Prop} (G : Store → Prop) (hc : (wpX Xp) (c σ st) fun _ st' => G st') (h : ∀ (few : Nat) st', G st' → 2 ≤ few → few ≤ m → F (.int few) st')
    (hi : ∃ a : Nat, σ[i]? = some (some (.int a)) ∧ 2 ≤ a ∧ a ≤ m) (hj : ∃ a : Nat, σ[j]? = some (some (.int a)) ∧ 2 ≤ a ∧ a ≤ m) : (wpX Xp) (dIf c (dVar i) (dVar j) σ st) F := by
  rw [wp_dIf]
  refine wp_mono hc fun b st' g => ?_
  simp only [wp_var]
  obtain ⟨a, h1, h2, h3⟩ := hi
  obtain ⟨a', h1', h2', h3'⟩ := hj
  exact ⟨fun _ => ⟨_, h1, h a _ g h2 h3⟩, fun _ => ⟨_, h1', h a' _ g h2' h3'⟩⟩
end
end Lib
set_option Elab.async false
set_option linter.all false
set_option maxRecDepth 100000
set_option maxHeartbeats 2000000
/-! DnWp5: dict comprehensions, dicts by ints, ranges. -/
namespace DN
open PySem PySem.Spec PyProof.Rows L2
variable {Xp : EP}
section
variable {Q : PV → Store → Prop} {QU : Unit → Store → Prop} {QB : Bool → Store → Prop} {σ : AE} {st : Store} {s : DI} {t : DT} {c : DB} {k v f g : DE} {n : Nat} {w : List Nat} {o : SO}
@[simp] theorem wp_dDc {b : Nat → AE → M Unit} : (wpX Xp) (dDc o s t c b w σ st) Q = (wpX Xp) (s σ st) fun r st => (wpX Xp) (dcL t c (b st.length) r.2 (wipeA σ w) r.1 (st ++ [o])) fun _ st' => Q (.ref st.length) st' := by simp [dDc]
@[simp] theorem wp_dcP : (wpX Xp) (dcP k v n σ st) QU = wpX EF (k σ st) fun x st => wpX EF (v σ st) fun y st => isDc n st = true ∧ wpX EF (pSet (.ref n) x y st) QU := by
  simp only [dcP, wp_bind, wp_noX]
  congr 1; funext x st; congr 1; funext y st
  split <;> simp [*]
@[simp] theorem wp_dcS {b : AE → M Unit} : (wpX Xp) (dcS s t c w b σ st) QU = wpX EF (s σ st) fun r st => (wpX Xp) (dcL t c b r.2 (wipeA σ w) r.1 st) QU := by
  simp only [dcS, wp_bind, wp_noX]
theorem wp_dcI {b : AE → M Unit} (I : List PV → Store → Prop) (hs : ∀ p r st, I (p :: r) st → wpX EF (t p σ st) fun σ1 st1 => wpX EF (c σ1 st1) fun k st2 => cnd k ((wpX Xp) (b σ1 st2) fun _ st3 => I r st3) (I r st2)) (hf : ∀ st, I [] st → QU () st) :
    ∀ (l : List PV) (st : Store), I l st → (wpX Xp) (dcL t c b (fun _ => true) σ l st) QU
  | [], st, h => by unfold dcL; simpa using hf st h
  | p :: r, st, h => by
    unfold dcL
    simp only [if_true, wp_bind, wp_noX]
    refine wp_mono (hs p r st h) fun σ1 st1 h1 => wp_mono h1 fun k st2 h2 => ?_
    cases k with
    | false => simpa using wp_dcI I hs hf r st2 (by simpa using h2)
    | true =>
      simp only [if_true, wp_bind]
      simp only [cnd_true] at h2
      exact wp_mono h2 fun _ st3 h3 => wp_dcI I hs hf r st3 h3
theorem wp_dcM {α : Type} {d : α → PV} {b : AE → M Unit} (P : List α → Store → Prop) (l : List α)
    (hs : ∀ I : List α → Store → Prop, (∀ i st, P i st → I i st) → ∀ p r st, P (p :: r) st → wpX EF (t (d p) σ st) fun σ1 st1 => wpX EF (c σ1 st1) fun k st2 => cnd k ((wpX Xp) (b σ1 st2) fun _ st3 => I r st3) (I r st2))
    (hf : ∀ st, P [] st → QU () st) (h : P l st) : (wpX Xp) (dcL t c b (fun _ => true) σ (l.map d) st) QU := by
  refine wp_dcI (fun m st => ∃ r, m = r.map d ∧ P r st) (fun p r st z => ?_) (fun st z => ?_) _ st ⟨l, rfl, h⟩
  · obtain ⟨r', e, z⟩ := z
    cases r' with
    | nil => cases e
    | cons a r' =>
      simp only [List.map_cons, List.cons.injEq] at e
      obtain ⟨rfl, rfl⟩ := e
      exact hs (fun r st => ∃ r', r.map d = r'.map d ∧ P r' st) (fun i st z => ⟨i, rfl, z⟩) a r' st z
  · obtain ⟨r', e, z⟩ := z
    cases r' with
    | nil => exact hf st z
    | cons _ _ => cases e
theorem isDcK {es : List (Key × PV)} (h : st[n]? = some (.dK es)) : isDc n st = true := by simp [isDc, h]
theorem isDcT {es : List (List Key × PV)} (h : st[n]? = some (.dT es)) : isDc n st = true := by simp [isDc, h]
/-! dicts by ints -/
theorem wp_inRK {es : List (Key × PV)} {i : Int} (h : st[n]? = some (.dK es)) : (wpX Xp) (pIn (.int i) (.ref n) st) Q = Q (.bl (look es (.inl i)).isSome) st := by
  simp only [pIn, pInB, dGet, h, kOf, Option.map_some]
  simp
theorem wp_notInRK {es : List (Key × PV)} {i : Int} (h : st[n]? = some (.dK es)) : (wpX Xp) (pNotIn (.int i) (.ref n) st) Q = Q (.bl (!(look es (.inl i)).isSome)) st := by
  simp only [pNotIn, pInB, dGet, h, kOf, Option.map_some]
  simp
theorem wp_setRK {es : List (Key × PV)} {i : Int} {y : PV} (h : st[n]? = some (.dK es)) (hz : es.length < SZ) (q : QU () (st.set n (.dK (putA es (.inl i) y)))) : (wpX Xp) (pSet (.ref n) (.int i) y st) QU := by
  simp only [pSet, h, kOf, hz, if_true, wp_ok]
  exact q
theorem wp_truthRL {l : List PV} (h : st[n]? = some (.lst l)) : (wpX Xp) (pTruth (.ref n) st) QB = QB (!l.isEmpty) st := by
  simp only [pTruth, h, wp_ok]
@[simp] theorem wp_truthTup {l : List PV} : (wpX Xp) (pTruth (.tup l) st) QB = QB (!l.isEmpty) st := by simp only [pTruth, wp_ok]
@[simp] theorem wp_truthLst {l : List PV} : (wpX Xp) (pTruth (.lst l) st) QB = QB (!l.isEmpty) st := by simp only [pTruth, wp_ok]
@[simp] theorem wp_tupRg {i : Int} : (wpX Xp) (qTupRg (.int i) st) Q = ((0 ≤ i ∧ i ≤ 1000000) ∧ Q (.tup (rgP 0 i)) st) := by simp [qTupRg]
@[simp] theorem wp_lstRg {i : Int} : (wpX Xp) (qLstRg (.int i) st) Q = ((0 ≤ i ∧ i ≤ 1000000) ∧ Q (.lst (rgP 0 i)) st) := by simp [qLstRg]
@[simp] theorem wp_lstRgR {i : Int} : (wpX Xp) (qLstRgR (.int i) st) Q = ((0 ≤ i ∧ i ≤ 1000000) ∧ Q (.ref st.length) (st ++ [.lst (rgP 0 i)])) := by simp [qLstRgR]
@[simp] theorem wp_addR {x y : List PV} : (wpX Xp) (pAddR (.lst x) (.lst y) st) Q = (x.length + y.length ≤ SZ ∧ Q (.ref st.length) (st ++ [.lst (x ++ y)])) := by simp [pAddR, asL]
theorem wp_dispR1 {i : Int} {y : PV} (hf : f σ st = .ok (.int i) st) (hg : g σ st = .ok y st) (q : Q (.ref st.length) (st ++ [.dK [(.inl i, y)]])) : (wpX Xp) (dDisp mDkR [(f, g)] σ st) Q := by
  simp only [dDisp, dPairs, hf, hg, noX, Res.bind, mDkR, kPairs, kOf]
  simpa [mergeA, putA] using q
end
end DN
set_option Elab.async false
set_option linter.all false
set_option maxRecDepth 100000
set_option maxHeartbeats 2000000
/-! LibL: worlds. -/
namespace Lib
open PySem PySem.Spec PyProof.Rows L2 DN
variable {Xp : EP}
section
variable {Q : PV → Store → Prop} {st : Store} {R : List Nat} {S : List Sy} {x y n s : Nat} {p f : PV} {t : Nat → Nat → List Sd} {es : List (List Key × PV)}
theorem drop_range {n k p : Nat} {r : List Nat} (h : (List.range n).drop k = p :: r) : p = k ∧ k < n ∧ r = (List.range n).drop (k + 1) := by
  have hk : k < n := by
    have := congrArg List.length h
    simp at this
    omega
  rw [List.drop_eq_getElem_cons (by simpa using hk)] at h
  simp only [List.cons.injEq, List.getElem_range] at h
  exact ⟨h.1.symm, hk, h.2.symm⟩
theorem drop_range_nil {n k : Nat} (h : (List.range n).drop k = []) : n ≤ k := by
  have := congrArg List.length h
  simp at this
  omega
/-- the dict holds for each two of n things what t says, as tuples -/
def TbT (es : List (List Key × PV)) (n : Nat) (t : Nat → Nat → List Sd) : Prop := ∀ a b : Nat, a < n → b < n → a ≠ b → look es [.inl a, .inl b] = some (.tup ((t a b).map sv))
theorem Cln.putT {es : List (List Key × PV)} {k : List Key} {L : List Sd} (h : Cln es) : Cln (putA es k (.tup (L.map sv))) := putA_vals (p := fun v => cl v = true) h (by simpa using cl_svs)
theorem all_lets_spec (hB : okB R S) (q : ∀ es, TbT es R.length (tbl R S) → Cln es → Q (fzT es) st) : (wpX Xp) (all_lets [bv R S] st) Q := by
  refine wp_fn ?_
  have hR := hB.1
  have h24 := hR.1
  have lenR : ∀ {X : EP} {Q : PV → Store → Prop} {st : Store}, wpX X (qLen [rv R] st) Q = Q (.int R.length) st := by simp [rv]
  simp [bv, lenR, rgN (show R.length ≤ 1000 by omega), rgP_nat]
  refine wp_dcM (d := fun i : Nat => PV.int i) (fun (r : List Nat) st' => ∃ (k : Nat) (es : List (List Key × PV)), k ≤ R.length ∧ r = (List.range R.length).drop k ∧ st' = st ++ [.dT es] ∧ Cln es ∧ es.length ≤ 24 * k ∧ ∀ a b : Nat, a < k → b < R.length → a ≠ b → look es [.inl a, .inl b] = some (.tup ((allS R a b).map sv))) _ ?_ ?_ ⟨0, [], by omega, rfl, rfl, (fun e he => by cases he), by simp, fun a b ha => by omega⟩
  · rintro I hI k r st' ⟨k', es, hk, hr, rfl, hc, hz, hT⟩
    obtain ⟨rfl, hkn, rfl⟩ := drop_range hr.symm
    simp [wipeA, rgN (show R.length ≤ 1000 by omega), rgP_nat]
    refine wp_dcM (d := fun i : Nat => PV.int i) (fun (r : List Nat) st' => ∃ (j : Nat) (es : List (List Key × PV)), j ≤ R.length ∧ r = (List.range R.length).drop j ∧ st' = st ++ [.dT es] ∧ Cln es ∧ es.length ≤ 24 * k + j ∧ (∀ a b : Nat, a < k → b < R.length → a ≠ b → look es [.inl a, .inl b] = some (.tup ((allS R a b).map sv))) ∧ ∀ b : Nat, b < j → k ≠ b → look es [.inl k, .inl b] = some (.tup ((allS R k b).map sv))) _ ?_ ?_ ⟨0, es, by omega, rfl, rfl, hc, by omega, hT, fun b hb => by omega⟩
    · rintro J hJ j r st' ⟨j', es, hj, hr, rfl, hc, hz, hT, hT2⟩
      obtain ⟨rfl, hjn, rfl⟩ := drop_range hr.symm
      simp
      by_cases hkj : k = j
      · subst hkj
        simp
        exact hJ _ _ ⟨k + 1, es, by omega, rfl, rfl, hc, by omega, hT, fun b hb hn => hT2 b (by omega) hn⟩
      · rw [cnd_neg (decide_eq_false (by omega))]
        refine all_standings_spec hR (by omega) (by omega) ?_
        refine ⟨isDcT (es := es) (by simp), ?_⟩
        refine wp_setT2 (es := es) (by simp) (by simp only [SZ_lit]; omega) ?_
        simp
        refine hJ _ _ ⟨j + 1, _, by omega, rfl, rfl, hc.putT, by have := putA_len (es := es) (k := [.inl (k : Int), .inl (j : Int)]) (v := .tup ((allS R k j).map sv)); omega, fun a b ha hb hn => ?_, fun b hb hn => ?_⟩
        · rw [look_putA, if_neg (by rw [key_inj]; omega)]
          exact hT a b ha hb hn
        · rw [look_putA]
          by_cases e : j = b
          · subst e
            rw [if_pos rfl]
          · rw [if_neg (by rw [key_inj]; omega)]
            exact hT2 b (by omega) hn
    · rintro st' ⟨j, es, hj, hr, rfl, hc, hz, hT, hT2⟩
      have := drop_range_nil hr.symm
      refine hI _ _ ⟨k + 1, es, by omega, rfl, rfl, hc, by omega, fun a b ha hb hn => ?_⟩
      by_cases e : a = k
      · subst e
        exact hT2 b (by omega) hn
      · exact hT a b (by omega) hb hn
  · rintro st' ⟨k, es, hk, hr, rfl, hc, hz, hT⟩
    have hkn := drop_range_nil hr.symm
    try simp [wipeA]
    refine wps_forM (fun r σ st' => ∃ (es : List (List Key × PV)) (D : List Sy), σ = [some (.tup [rv R, .tup (S.map syv)]), some (.int R.length), some (.ref st.length), some (rv R), some (.tup (S.map syv)), none, none, none] ∧ st' = st ++ [.dT es] ∧ S = D ++ r ∧ Cln es ∧ es.length ≤ 576 + 2 * D.length ∧ TbT es R.length (tbl R D)) _ ?_ ?_ ⟨es, [], rfl, rfl, rfl, hc, by simp; omega, fun a b ha hb hn => ?_⟩
    · rintro I hI z r σ st' ⟨es, D, rfl, rfl, e, hc, hz, hT⟩
      have hD : D.length + 1 + r.length = S.length := by rw [e]; simp; omega
      have hS4 := hB.2.1
      obtain ⟨hx, hy, hxy, hs⟩ := hB.2.2 z (by rw [e]; simp)
      have hzl : z.lot.length ≤ 9 := Nat.le_trans hs.length_le (allS_len hR)
      have lD1 := tbl_len (x := z.x) (y := z.y) hR (S := D)
      have lD2 := tbl_len (x := z.y) (y := z.x) hR (S := D)
      simp [syv]
      refine wp_ixR2 (es := es) (by simp) (hT _ _ hx hy hxy) ?_
      refine common_spec (by omega) ?_
      try simp
      refine wp_setT2 (es := es) (by simp) (by simp only [SZ_lit]; omega) ?_
      simp
      have p1 := putA_len (es := es) (k := [.inl (z.x : Int), .inl (z.y : Int)]) (v := .tup (((tbl R D z.x z.y).filter fun s => decide (s ∈ z.lot)).map sv))
      have c1 := hc.putT (k := [.inl (z.x : Int), .inl (z.y : Int)]) (L := (tbl R D z.x z.y).filter fun s => decide (s ∈ z.lot))
      have t1 : ∀ a b : Nat, a < R.length → b < R.length → a ≠ b → look (putA es [.inl (z.x : Int), .inl (z.y : Int)] (.tup (((tbl R D z.x z.y).filter fun s => decide (s ∈ z.lot)).map sv))) [.inl a, .inl b] = some (.tup ((if z.x = a ∧ z.y = b then (tbl R D a b).filter (fun s => decide (s ∈ z.lot)) else tbl R D a b).map sv)) := fun a b ha hb hn => by
        rw [look_putA]
        by_cases h : z.x = a ∧ z.y = b
        · rw [if_pos (key_inj.mpr h), if_pos h, h.1, h.2]
        · rw [if_neg (fun h' => h (key_inj.mp h')), if_neg h]
          exact hT a b ha hb hn
      generalize putA es [.inl (z.x : Int), .inl (z.y : Int)] (.tup (((tbl R D z.x z.y).filter fun s => decide (s ∈ z.lot)).map sv)) = es1 at p1 c1 t1
      refine wp_ixR2 (es := es1) (by simp) (t1 _ _ hy hx (Ne.symm hxy)) ?_
      rw [if_neg (by omega)]
      refine turned_lets_sp (by omega) fun M hM1 hM2 => ?_
      refine common_spec (by omega) ?_
      try simp
      refine wp_setT2 (es := es1) (by simp) (by simp only [SZ_lit]; omega) ?_
      have p2 := putA_len (es := es1) (k := [.inl (z.y : Int), .inl (z.x : Int)]) (v := .tup (((tbl R D z.y z.x).filter fun s => decide (s ∈ M)).map sv))
      have c2 := c1.putT (k := [.inl (z.y : Int), .inl (z.x : Int)]) (L := (tbl R D z.y z.x).filter fun s => decide (s ∈ M))
      simp [wipeA]
      refine hI _ _ _ ⟨_, D ++ [z], rfl, rfl, by simp [e], c2, by simp; omega, fun a b ha hb hn => ?_⟩
      rw [look_putA, tbl_snoc]
      by_cases h : z.x = a ∧ z.y = b
      · obtain ⟨rfl, rfl⟩ := h
        rw [if_neg (by rw [key_inj]; omega), t1 _ _ ha hb hn, if_pos ⟨rfl, rfl⟩]
        congr 4
        funext s
        have : ¬ (z.x = z.y ∧ z.y = z.x) := by omega
        simp
        omega
      · by_cases h2 : z.x = b ∧ z.y = a
        · obtain ⟨rfl, rfl⟩ := h2
          rw [if_pos rfl]
          congr 4
          funext s
          simp [hM2]
          omega
        · rw [if_neg (by rw [key_inj]; omega), t1 _ _ ha hb hn, if_neg h]
          congr 3
          symm
          rw [List.filter_eq_self]
          intro s _
          have h1' : (decide (z.x = a) && decide (z.y = b)) = false := by simpa using h
          have h2' : (decide (z.x = b) && decide (z.y = a)) = false := by simpa using h2
          rw [h1', h2']
          rfl
    · rintro σ st' ⟨es, D, rfl, rfl, e, hc, hz, hT⟩
      simp [wipeA]
      have : S = D := by simpa using e
      subst this
      exact Gc.dT (s := st.length) (n := st.length) (x := st) (es := es) (junk := [.dT es]) (cls_iff.mpr fun p hp => by obtain ⟨e, he, rfl⟩ := List.mem_map.mp hp; exact hc e he) .refl rfl (Nat.le_refl _) (by simp) (q es hT hc)
    · rw [tbl_nil]
      exact hT a b (by omega) hb hn
/-- the things linked with x -/
def nr (t : Nat → Nat → List Sd) (n x : Nat) : List Nat := (List.range n).filter fun y => !decide (y = x) && lk t x y
def nrv (t : Nat → Nat → List Sd) (n : Nat) : PV := .tup ((List.range n).map fun x => tv (nr t n x))
theorem sv_ap : PV.tup [.str ("apart" : Str), .int 0] = sv .ap := rfl
theorem near_of_spec (hR : okR R) (hT : TbT es R.length t) (q : Q (nrv t R.length) st) : (wpX Xp) (near_of [rv R, fzT es] st) Q := by
  refine wp_fn ?_
  have h24 := hR.1
  have lenR : ∀ {X : EP} {Q : PV → Store → Prop} {st : Store}, wpX X (qLen [rv R] st) Q = Q (.int R.length) st := by simp [rv]
  simp [lenR, rgN (show R.length ≤ 1000 by omega), rgP_nat]
  refine wp_lcA (g := fun i : Nat => PV.int i) (fun x => tv (nr t R.length x)) _ (fun x hx => ?_) ?_
  · have hx := List.mem_range.mp hx
    simp [wipeA, rgN (show R.length ≤ 1000 by omega), rgP_nat]
    refine wp_lcF (g := fun i : Nat => PV.int i) (fun y => !decide (y = x) && lk t x y) nv _ (fun y hy => ?_) ?_
    · have hy := List.mem_range.mp hy
      simp [wipeA]
      by_cases e : y = x
      · subst e; simp
      · rw [cnd_neg (decide_eq_false (by omega))]
        refine wp_ixT2 (hT _ _ hx hy (Ne.symm e)) ?_
        rw [sv_ap, wp_notInSvT]
        simp [e, lk, nv]
    · have := List.length_filter_le (fun y => !decide (y = x) && lk t x y) (List.range R.length)
      rw [List.length_range] at this
      simp
      exact ⟨by omega, rfl⟩
  · simp
    refine ⟨by omega, ?_⟩
    refine Gc.same ?_ q
    simp only [cl_tup]
    refine cls_iff.mpr fun p hp => ?_
    obtain ⟨x, _, rfl⟩ := List.mem_map.mp hp
    simp only [tv, cl_tup]
    refine cls_iff.mpr fun p hp => ?_
    obtain ⟨x, _, rfl⟩ := List.mem_map.mp hp
    rfl
def wv (R : List Nat) (es : List (List Key × PV)) (t : Nat → Nat → List Sd) : PV := .tup [rv R, fzT es, nrv t R.length]
theorem cl_tv {P : List Nat} : cl (tv P) = true := by
  simp only [tv, cl_tup]
  refine cls_iff.mpr fun p hp => ?_
  obtain ⟨x, _, rfl⟩ := List.mem_map.mp hp
  rfl
theorem cls_tvs {Ps : List (List Nat)} : cls (Ps.map tv) = true := cls_iff.mpr fun p hp => by
  obtain ⟨x, _, rfl⟩ := List.mem_map.mp hp
  exact cl_tv
theorem cl_fzT {es : List (List Key × PV)} (h : Cln es) : cl (fzT es) = true := by
  simp only [fzT, cl_dT]
  exact cls_iff.mpr fun p hp => by obtain ⟨e, he, rfl⟩ := List.mem_map.mp hp; exact h e he
theorem world_of_spec (hB : okB R S) (q : ∀ es, TbT es R.length (tbl R S) → Cln es → Q (wv R es (tbl R S)) st) : (wpX Xp) (world_of [bv R S] st) Q := by
  refine wp_fn ?_
  simp
  refine all_lets_spec hB fun es hT hc => ?_
  simp [bv]
  refine near_of_spec hB.1 hT ?_
  refine Gc.same ?_ (q es hT hc)
  have h1 : cl (rv R) = true := dab_cl (dab_rv (n := 3))
  simp only [cl_tup, DN.cls_cons, cl_fzT hc, DN.cls_nil, h1, Bool.and_true, Bool.true_and]
  unfold nrv
  simp only [cl_tup]
  refine cls_iff.mpr fun p hp => ?_
  obtain ⟨x, _, rfl⟩ := List.mem_map.mp hp
  exact cl_tv
end
end Lib
set_option Elab.async false
set_option linter.all false
set_option maxRecDepth 100000
set_option maxHeartbeats 2000000
/-! LibM: what hangs together by links. -/
namespace Lib
open PySem PySem.Spec PyProof.Rows L2 DN
variable {Xp : EP}
/-- from a one comes to it by links within L -/
inductive Rch (t : Nat → Nat → List Sd) (L : List Nat) (a : Nat) : Nat → Prop where
  | refl : Rch t L a a
  | step {x y : Nat} : Rch t L a x → y ∈ L → y ≠ x → lk t x y = true → Rch t L a y
open Classical in
/-- what hangs together with a -/
noncomputable def cmp (t : Nat → Nat → List Sd) (L : List Nat) (a : Nat) : List Nat := L.filter fun y => decide (Rch t L a y)
section
variable {Q : PV → Store → Prop} {st : Store} {R : List Nat} {S : List Sy} {x y n s : Nat} {p f : PV} {t : Nat → Nat → List Sd} {es : List (List Key × PV)} {L : List Nat}
theorem Rch.mem {a b : Nat} (ha : a ∈ L) (h : Rch t L a b) : b ∈ L := by
  cases h with
  | refl => exact ha
  | step _ h _ _ => exact h
/-- the keys of a dict are these numbers -/
def Ks (es : List (Key × PV)) (M : List Nat) : Prop := (∀ x : Nat, (look es (.inl (x : Int))).isSome = decide (x ∈ M)) ∧ es.length ≤ M.length
theorem Ks.put {es : List (Key × PV)} {M : List Nat} {y : Nat} {v : PV} (h : Ks es M) : Ks (putA es (.inl (y : Int)) v) (M ++ [y]) := by
  refine ⟨fun x => ?_, by have := putA_len (es := es) (k := (.inl (y : Int) : Key)) (v := v); have := h.2; simp; omega⟩
  rw [look_putA]
  by_cases e : y = x
  · subst e; simp
  · rw [if_neg (by intro h; simp at h; omega), h.1 x]
    simp [Ne.symm e]
theorem nodup_sub_len : ∀ {M L : List Nat}, M.Nodup → (∀ b ∈ M, b ∈ L) → M.length ≤ L.length
  | [], _, _, _ => by simp
  | b :: M, L, nd, h => by
    obtain ⟨h1, h2⟩ := List.nodup_cons.mp nd
    have hb := h b (by simp)
    have := nodup_sub_len (L := L.erase b) h2 fun c hc => (List.mem_erase_of_ne (fun e => h1 (by rw [← e]; exact hc))).mpr (h c (by simp [hc]))
    rw [List.length_erase_of_mem hb] at this
    have := List.length_pos_of_mem hb
    simp
    omega
theorem reached_spec {a : Nat} (hL : ∀ b ∈ L, b < n) (hz : L.length ≤ 1000) (ha : a ∈ L) (q : Q (tv (cmp t L a)) st) : (wpX Xp) (reached [nrv t n, tv L, .int a] st) Q := by
  refine wp_fn ?_
  simp [tv]
  refine wp_dcM (d := nv) (fun (r : List Nat) st' => ∃ (D : List Nat) (es : List (Key × PV)), L = D ++ r ∧ st' = st ++ [.dK es] ∧ Ks es D) _ ?_ ?_ ⟨[], [], rfl, rfl, fun x => by simp [look], by simp⟩
  · rintro I hI x r st' ⟨D, es, e, rfl, hk⟩
    have hD : D.length + 1 + r.length = L.length := by rw [e]; simp; omega
    simp [wipeA]
    refine ⟨isDcK (es := es) (by simp), ?_⟩
    refine wp_setRK (es := es) (by simp) (by simp only [SZ_lit]; have := hk.2; omega) ?_
    simp
    exact hI _ _ ⟨D ++ [x], _, by simp [e], rfl, hk.put⟩
  · rintro st' ⟨D, es, e, rfl, hk⟩
    have : L = D := by rw [e]; simp
    subst this
    try simp
    refine wp_dispR1 (i := a) rfl rfl ?_
    simp
    have hm0 : Ks [(.inl (a : Int), .bl true)] [a] := by
      refine ⟨fun x => ?_, by simp⟩
      simp only [look]
      by_cases e : x = a
      · subst e; simp
      · simp [e, Ne.symm e]
        omega
    refine wps_whileO (fun m σ st' => ∃ (em : List (Key × PV)) (M W : List Nat), σ = [some (nrv t n), some (.tup (L.map nv)), some (.int a), some (.ref st.length), some (.ref (st.length + 1)), some (.ref (st.length + 2)), none, none] ∧ st' = st ++ [.dK es, .dK em, .lst (W.map nv)] ∧ Ks em M ∧ M.Nodup ∧ a ∈ M ∧ (∀ b ∈ M, Rch t L a b) ∧ (∀ b ∈ W, b ∈ M) ∧ (∀ b ∈ M, b ∉ W → ∀ y ∈ L, y ≠ b → lk t b y = true → y ∈ M) ∧ W.length ≤ M.length ∧ m = 2 * (L.length - M.length) + W.length) ?_ _ ⟨_, [a], [a], rfl, rfl, hm0, by simp, by simp, fun b hb => by simp at hb; subst hb; exact .refl, by simp, fun b h1 h2 => absurd h1 h2, by simp, rfl⟩
    rintro I hI m σ st' ⟨em, M, W, rfl, rfl, hM, nd, haM, hr, hW, hcl, hWl, rfl⟩
    have hsub : ∀ (M : List Nat), M.Nodup → (∀ b ∈ M, Rch t L a b) → M.length ≤ L.length := fun M nd h => nodup_sub_len nd fun b hb => (h b hb).mem ha
    have hML := hsub M nd hr
    simp
    rw [wp_truthRL (l := W.map nv) (by simp)]
    rcases List.eq_nil_or_concat W with rfl | ⟨W', x, rfl⟩
    · simp
      refine wp_lcF (fun y => decide (y ∈ M)) nv _ (fun y hy => ?_) ?_
      · simp [wipeA]
        rw [show nv y = PV.int (y : Int) from rfl, wp_inRK (es := em) (by simp), hM.1]
        simp
      · have hl := List.length_filter_le (fun y => decide (y ∈ M)) L
        simp
        refine ⟨by omega, ?_⟩
        have e : (L.filter fun y => decide (y ∈ M)) = cmp t L a := by
          unfold cmp
          refine List.filter_congr fun y hy => ?_
          rw [decide_eq_decide]
          refine ⟨hr y, fun h => ?_⟩
          induction h with
          | refl => exact haM
          | step h1 h2 h3 h4 ih => exact hcl _ (ih (h1.mem ha)) (by simp) _ h2 h3 h4
        rw [e]
        exact Gc.pure (junk := [.dK es, .dK em, .lst []]) (cl_tv (P := cmp t L a)) (by simp) q
    · rw [List.concat_eq_append] at *
      have hx : x ∈ M := hW x (by simp)
      have hxL : x ∈ L := (hr x hx).mem ha
      have hxn := hL x hxL
      rw [cnd_pos (by simp)]
      simp
      refine ⟨isL_ref (l := (W' ++ [x]).map nv) (by simp), ?_⟩
      refine wp_pop0 (l := W'.map nv) (y := nv x) (by simp) ?_
      rw [app_set rfl]
      simp [nrv, nv]
      refine ⟨tv (nr t n x), by rw [atI_map (by simpa using hxn)]; simp, ?_⟩
      simp [tv]
      refine wps_forM (fun r σ st' => ∃ (em : List (Key × PV)) (M2 W D : List Nat), nr t n x = D ++ r ∧ σ = [some (nrv t n), some (.tup (L.map nv)), some (.int a), some (.ref st.length), some (.ref (st.length + 1)), some (.ref (st.length + 2)), some (.int x), none] ∧ st' = st ++ [.dK es, .dK em, .lst (W.map nv)] ∧ Ks em M2 ∧ M2.Nodup ∧ a ∈ M2 ∧ (∀ b ∈ M2, Rch t L a b) ∧ (∀ b ∈ W, b ∈ M2) ∧ x ∈ M2 ∧ (∀ b ∈ M2, b ∉ W → b ≠ x → ∀ y ∈ L, y ≠ b → lk t b y = true → y ∈ M2) ∧ (∀ y ∈ D, y ∈ L → y ∈ M2) ∧ W.length ≤ M2.length ∧ 2 * (L.length - M2.length) + W.length < 2 * (L.length - M.length) + (W'.length + 1)) _ ?_ ?_ ⟨em, M, W', [], rfl, rfl, by simp, hM, nd, haM, hr, fun b hb => hW b (by simp [hb]), hx, fun b h1 h2 h3 => hcl b h1 (by simp [h2, h3]), by simp, by simp at hWl; omega, by omega⟩
      · rintro J hJ y r σ st' ⟨em, M2, W, D, e, rfl, rfl, hM, nd, haM, hr, hW, hx, hcl, hD, hWl, hm⟩
        have hyn : y ∈ nr t n x := by rw [e]; simp
        have hy2 := List.mem_filter.mp hyn
        simp only [Bool.and_eq_true, Bool.not_eq_true', decide_eq_false_iff_not] at hy2
        have hML2 := hsub M2 nd hr
        simp [nv]
        rw [wp_inRK (es := es) (by simp), hk.1]
        simp
        by_cases hyL : y ∈ L
        · rw [cnd_pos (decide_eq_true hyL)]
          rw [wp_notInRK (es := em) (by simp), hM.1]
          simp
          by_cases hyM : y ∈ M2
          · rw [cnd_pos (decide_eq_true hyM)]
            simp [wipeA]
            exact hJ _ _ _ ⟨em, M2, W, D ++ [y], by simp [e], rfl, rfl, hM, nd, haM, hr, hW, hx, hcl, fun z hz hzL => by
              rcases List.mem_append.mp hz with h | h
              · exact hD z h hzL
              · simp at h; subst h; exact hyM, hWl, hm⟩
          · rw [cnd_neg (decide_eq_false hyM)]
            have nd2 : (M2 ++ [y]).Nodup := by
              rw [List.nodup_append]
              exact ⟨nd, by simp, fun b hb c hc h => by simp at hc; subst hc; subst h; exact hyM hb⟩
            have hr2 : ∀ b ∈ M2 ++ [y], Rch t L a b := fun b hb => by
              rcases List.mem_append.mp hb with h | h
              · exact hr b h
              · simp at h; subst h
                exact .step (hr x hx) hyL hy2.2.1 hy2.2.2
            have hz2 := hsub _ nd2 hr2
            simp at hz2
            refine wp_setRK (es := em) (by simp) (by simp only [SZ_lit]; have := hM.2; omega) ?_
            rw [app_set rfl]
            simp
            refine ⟨isL_ref (l := W.map nv) (by simp), ?_⟩
            refine wp_append (l := W.map nv) (by simp) (by simp only [SZ_lit]; simp; omega) ?_
            rw [app_set rfl]
            simp [wipeA]
            refine hJ _ _ _ ⟨putA em (.inl (y : Int)) (.bl true), M2 ++ [y], W ++ [y], D ++ [y], by simp [e], rfl, by simp [nv], hM.put, nd2, by simp [haM], hr2, fun b hb => ?_, by simp [hx], fun b h1 h2 h3 z h4 h5 h6 => ?_, fun z hz hzL => ?_, by simp; omega, by simp; omega⟩
            · rcases List.mem_append.mp hb with h | h
              · exact List.mem_append_left _ (hW b h)
              · exact List.mem_append_right _ h
            · simp at h1 h2
              rcases h1 with h1 | h1
              · exact List.mem_append_left _ (hcl b h1 h2.1 h3 z h4 h5 h6)
              · exact absurd h1 h2.2
            · rcases List.mem_append.mp hz with h | h
              · exact List.mem_append_left _ (hD z h hzL)
              · exact List.mem_append_right _ h
        · rw [cnd_neg (decide_eq_false hyL)]
          simp [wipeA]
          exact hJ _ _ _ ⟨em, M2, W, D ++ [y], by simp [e], rfl, rfl, hM, nd, haM, hr, hW, hx, hcl, fun z hz hzL => by
            rcases List.mem_append.mp hz with h | h
            · exact hD z h hzL
            · simp at h; subst h; exact absurd hzL hyL, hWl, hm⟩
      · rintro σ st' ⟨em, M2, W, D, e, rfl, rfl, hM, nd, haM, hr, hW, hx, hcl, hD, hWl, hm⟩
        simp [wipeA]
        refine ⟨_, hm, hI _ _ _ ⟨em, M2, W, rfl, rfl, hM, nd, haM, hr, hW, fun b h1 h2 y h3 h4 h5 => ?_, hWl, rfl⟩⟩
        by_cases hbx : b = x
        · subst hbx
          refine hD y ?_ h3
          have : y ∈ nr t n b := List.mem_filter.mpr ⟨List.mem_range.mpr (hL y h3), by simp [h4, h5]⟩
          rw [e] at this
          simpa using this
        · exact hcl b h1 h2 hbx y h3 h4 h5
end
end Lib
set_option Elab.async false
set_option linter.all false
set_option maxRecDepth 100000
set_option maxHeartbeats 2000000
/-! LibN: parts of a lot. -/
namespace Lib
open PySem PySem.Spec PyProof.Rows L2 DN
variable {Xp : EP}
open Classical in
/-- the parts of a lot, by their first things -/
noncomputable def pf (t : Nat → Nat → List Sd) : Nat → List Nat → List (List Nat)
  | 0, _ => []
  | _ + 1, [] => []
  | k + 1, a :: l => cmp t (a :: l) a :: pf t k ((a :: l).filter fun x => !decide (x ∈ cmp t (a :: l) a))
noncomputable def pi (t : Nat → Nat → List Sd) (L : List Nat) : List (List Nat) := pf t L.length L
section
variable {Q : PV → Store → Prop} {st : Store} {R : List Nat} {S : List Sy} {x y n s : Nat} {p f : PV} {t : Nat → Nat → List Sd} {es : List (List Key × PV)} {L : List Nat}
theorem cmp_self {a : Nat} (h : a ∈ L) : a ∈ cmp t L a := by
  unfold cmp
  simp only [List.mem_filter, decide_eq_true_eq]
  exact ⟨h, .refl⟩
theorem less_len {a : Nat} {l : List Nat} : ((a :: l).filter fun x => !decide (x ∈ cmp t (a :: l) a)).length ≤ l.length := by
  have h := cmp_self (t := t) (L := a :: l) (a := a) (by simp)
  rw [List.filter_cons, if_neg (by simp [h])]
  exact List.length_filter_le _ _
theorem pf_fuel : ∀ (k m : Nat) (l : List Nat), l.length ≤ k → l.length ≤ m → pf t k l = pf t m l
  | 0, m, l, h, _ => by
    have : l = [] := List.length_eq_zero_iff.mp (by omega)
    subst this
    cases m <;> rfl
  | k + 1, 0, l, _, h => by
    have : l = [] := List.length_eq_zero_iff.mp (by omega)
    subst this
    rfl
  | k + 1, m + 1, [], _, _ => rfl
  | k + 1, m + 1, a :: l, h1, h2 => by
    simp only [List.length_cons] at h1 h2
    have := less_len (t := t) (a := a) (l := l)
    unfold pf
    rw [pf_fuel k m _ (by omega) (by omega)]
theorem pi_cons {a : Nat} {l : List Nat} : pi t (a :: l) = cmp t (a :: l) a :: pi t ((a :: l).filter fun x => !decide (x ∈ cmp t (a :: l) a)) := by
  have h : pi t (a :: l) = cmp t (a :: l) a :: pf t l.length ((a :: l).filter fun x => !decide (x ∈ cmp t (a :: l) a)) := rfl
  rw [h, pf_fuel _ _ _ less_len (Nat.le_refl _)]
  rfl
theorem all_nvs {l : List Nat} {m : Nat} : (l.map nv).all (dpv m) = true := by
  rw [List.all_eq_true]
  intro p hp
  obtain ⟨x, _, rfl⟩ := List.mem_map.mp hp
  cases m <;> rfl
theorem mem_nv {l : List Nat} {x : Nat} : PV.int (x : Int) ∈ l.map nv ↔ x ∈ l := by
  rw [List.mem_map]
  constructor
  · rintro ⟨y, h, e⟩
    simp only [nv, PV.int.injEq] at e
    have : y = x := by omega
    subst this
    exact h
  · exact fun h => ⟨x, h, rfl⟩
theorem wp_inNT {l : List Nat} : (wpX Xp) (pIn (.int x) (.tup (l.map nv)) st) Q = Q (.bl (decide (x ∈ l))) st := by
  rw [wp_inT (by simp [dpv]) all_nvs]; simp only [mem_nv]
theorem wp_inNL {l : List Nat} : (wpX Xp) (pIn (.int x) (.lst (l.map nv)) st) Q = Q (.bl (decide (x ∈ l))) st := by
  rw [wp_inL (by simp [dpv]) all_nvs]; simp only [mem_nv]
theorem wp_ninNT {l : List Nat} : (wpX Xp) (pNotIn (.int x) (.tup (l.map nv)) st) Q = Q (.bl (!decide (x ∈ l))) st := by
  rw [wp_notInT (by simp [dpv]) all_nvs]; simp only [mem_nv]
theorem wp_ninNL {l : List Nat} : (wpX Xp) (pNotIn (.int x) (.lst (l.map nv)) st) Q = Q (.bl (!decide (x ∈ l))) st := by
  rw [wp_notInL (by simp [dpv]) all_nvs]; simp only [mem_nv]
theorem parts_in_spec {w0 w1 : PV} (hL : ∀ b ∈ L, b < n) (hz : L.length ≤ 1000) (q : Q (.tup ((pi t L).map tv)) st) : (wpX Xp) (parts_in [.tup [w0, w1, nrv t n], tv L] st) Q := by
  refine wp_fn ?_
  simp
  refine wps_whileO (fun m σ st' => ∃ (T : List (List Nat)) (l : List Nat), σ = [some (.tup [w0, w1, nrv t n]), some (tv L), some (.ref st.length), some (tv l), none, none] ∧ st' = st ++ [.lst (T.map tv)] ∧ pi t L = T ++ pi t l ∧ (∀ b ∈ l, b < n) ∧ T.length + l.length ≤ 1000 ∧ m = l.length) ?_ _ ⟨[], L, rfl, rfl, rfl, hL, by simp; omega, rfl⟩
  rintro I hI m σ st' ⟨T, l, rfl, rfl, e, hl, hlz, rfl⟩
  cases l with
  | nil =>
    simp [tv]
    rw [wp_tupR (l := T.map tv) (by simp)]
    have : pi t L = T := by rw [e]; simp [pi, pf]
    rw [this] at q
    exact Gc.pure (junk := [.lst (T.map tv)]) (by simpa using cls_tvs) rfl q
  | cons a l =>
    simp only [List.length_cons] at hlz
    simp [tv]
    refine reached_spec (L := a :: l) hl (by simp; omega) (by simp) ?_
    try simp
    refine ⟨isL_ref (l := T.map tv) (by simp [tv]), ?_⟩
    refine wp_append (l := T.map tv) (by simp [tv]) (by simp only [SZ_lit]; simp; omega) ?_
    simp
    refine wp_lcF (g := nv) (fun x => !decide (x ∈ cmp t (a :: l) a)) nv (a :: l) (fun x hx => ?_) ?_
    · simp [wipeA, nv, tv]
      rw [wp_ninNT]
      simp
    · have hll := less_len (t := t) (a := a) (l := l)
      simp
      refine ⟨by omega, (((a :: l).filter fun x => !decide (x ∈ cmp t (a :: l) a))).length, by omega, hI _ _ _ ⟨T ++ [cmp t (a :: l) a], _, by simp [wipeA, tv], by simp, by rw [e, pi_cons]; simp, fun b hb => hl b (List.mem_filter.mp hb).1, by simp; omega, rfl⟩⟩
end
end Lib
set_option Elab.async false
set_option linter.all false
set_option maxRecDepth 100000
set_option maxHeartbeats 2000000
/-! LibO: lots; parts, asked of a book. -/
namespace Lib
open PySem PySem.Spec PyProof.Rows L2 DN
variable {Xp : EP}
/-- an ascending list of things -/
def okL (n : Nat) (L : List Nat) : Prop := L.Pairwise (· < ·) ∧ ∀ a ∈ L, a < n
def IsLot (n : Nat) (p : PV) : Prop := ∃ L, p = tv L ∧ okL n L
section
variable {Q : PV → Store → Prop} {st : Store} {R : List Nat} {S : List Sy} {x y n s : Nat} {p f : PV} {t : Nat → Nat → List Sd} {es : List (List Key × PV)} {L : List Nat}
theorem okL.nodup (h : okL n L) : L.Nodup := h.1.imp fun h => Nat.ne_of_lt h
theorem okL.len (h : okL n L) : L.length ≤ n := nodup_bound n L h.nodup h.2
theorem nv_inj {a b : Nat} (h : nv a = nv b) : a = b := by
  simp only [nv, PV.int.injEq] at h
  omega
theorem tv_inj {L M : List Nat} (h : tv L = tv M) : L = M := (List.map_inj_right (fun _ _ h => nv_inj h)).mp (by simpa [tv] using h)
open Classical in
theorem is_lot_sp (hp : dab 20 p = true) (q : Q (.bl (decide (IsLot R.length p))) st) : (wpX Xp) (is_lot [rv R, p] st) Q := by
  refine wp_fn ?_
  have no : ∀ {σ'}, ¬ IsLot R.length p → Gc st (.bl false) σ' Q → Gc st (.bl false) σ' Q := fun _ h => h
  simp [wp_isTup hp]
  by_cases htup : ∃ l, p = .tup l
  · obtain ⟨l, rfl⟩ := htup
    have hl : ∀ p ∈ l, dab 20 p = true := fun p h => dab_mono (n := 19) (by omega) (dab_one hp h)
    simp [isTp]
    refine wps_forLo (fun r σ st' => ∃ (D : List Nat) (b : Int), σ = [some (rv R), some (.tup l), some (.int b), none] ∧ st = st' ∧ l = D.map nv ++ r ∧ okL R.length D ∧ (∀ a ∈ D, (a : Int) ≤ b) ∧ (b = -1 ∨ ∃ c ∈ D, b = (c : Int))) _ ?_ ?_ ⟨[], -1, rfl, rfl, rfl, ⟨.nil, by simp⟩, by simp, .inl rfl⟩
    · rintro I hI v r σ st' ⟨D, b, rfl, rfl, e, hD, hb, hb2⟩
      simp
      refine thing_spec (hl v (by rw [e]; simp)) ?_
      have bad : (∀ (L : List Nat) (c : Nat) (r' : List Nat), L = D ++ c :: r' → v = nv c → r = r'.map nv → ¬ okL R.length L) → Gc st (.bl false) st Q := fun h => by
        have : ¬ IsLot R.length (.tup l) := by
          rintro ⟨L, e2, h2⟩
          simp only [tv, PV.tup.injEq] at e2
          rw [e] at e2
          obtain ⟨A, B, rfl, eA, eB⟩ := List.map_eq_append_iff.mp e2.symm
          have : A = D := (List.map_inj_right (fun _ _ h => nv_inj h)).mp eA
          subst this
          cases B with
          | nil => cases eB
          | cons c r' =>
            simp only [List.map_cons, List.cons.injEq] at eB
            exact h _ c r' rfl eB.1.symm eB.2.symm h2
        exact Gc.same (by simp) (by simpa [this] using q)
      by_cases hv : ∃ c : Nat, v = nv c ∧ c < R.length
      · obtain ⟨c, rfl, hc⟩ := hv
        simp [nv, nmB, hc]
        by_cases hcb : (c : Int) ≤ b
        · rw [cnd_pos (decide_eq_true hcb)]
          refine bad fun L c' r' e1 e2 e3 h => ?_
          have : c = c' := nv_inj e2
          subst this
          subst e1
          rcases hb2 with rfl | ⟨d, hd, rfl⟩
          · omega
          · have := (List.pairwise_append.mp h.1).2.2 d hd c (by simp)
            omega
        · rw [cnd_neg (decide_eq_false hcb)]
          simp [wipeA]
          refine hI _ _ _ ⟨D ++ [c], c, rfl, rfl, by rw [e]; simp [nv], ⟨?_, fun a ha => ?_⟩, fun a ha => ?_, .inr ⟨c, by simp, rfl⟩⟩
          · refine List.pairwise_append.mpr ⟨hD.1, by simp, fun a ha d hd => ?_⟩
            simp at hd
            subst hd
            have := hb a ha
            omega
          · rcases List.mem_append.mp ha with h | h
            · exact hD.2 a h
            · simp at h; subst h; exact hc
          · rcases List.mem_append.mp ha with h | h
            · have := hb a h; omega
            · simp at h; subst h; omega
      · have hn : nmB R.length v = false := by
          cases v <;> simp [nmB]
          rename_i i
          intro h0
          refine Int.not_lt.mp fun h1 => hv ⟨i.toNat, by simp [nv]; omega, by omega⟩
        rw [hn]
        simp
        exact bad fun L c r' e1 e2 e3 h => hv ⟨c, e2, h.2 c (by rw [e1]; simp)⟩
    · rintro σ st' ⟨D, b, rfl, rfl, e, hD, hb, hb2⟩
      try simp [wipeA]
      have : IsLot R.length (.tup l) := ⟨D, by rw [e]; simp [tv], hD⟩
      exact Gc.same (by simp) (by simpa [this] using q)
  · have h1 : isTp p = false := by cases p <;> first | rfl | exact absurd ⟨_, rfl⟩ htup
    rw [h1]
    simp
    have : ¬ IsLot R.length p := fun ⟨L, e, _⟩ => htup ⟨_, e⟩
    exact Gc.same (by simp) (by simpa [this] using q)
theorem want_lot_sp (hp : dab 20 p = true) (q : IsLot R.length p → Q .non st) (q1 : ¬ IsLot R.length p → Xp ("BadLot" : Str) (.int (-1)) st) : (wpX Xp) (want_lot [rv R, p] st) Q := by
  classical
  refine wp_fn ?_
  simp
  refine is_lot_sp hp ?_
  by_cases h : IsLot R.length p
  · simp [h]
    exact Gc.same (by simp) (q h)
  · simp [h]
    exact Gc.same (by simp) (q1 h)
theorem parts_sp (hB : okB R S) (hp : dab 20 p = true) (q : ∀ L, p = tv L → okL R.length L → Q (.tup ((pi (tbl R S) L).map tv)) st) (q1 : ¬ IsLot R.length p → Xp ("BadLot" : Str) (.int (-1)) st) : (wpX Xp) (parts [bv R S, p] st) Q := by
  refine wp_fn ?_
  have h24 := hB.1.1
  simp
  refine made_book_spec hB.1 (by simpa using hB.2.1) (dab_says hB.2.2) (fun _ => ?_) (fun k h => ?_)
  · simp
    refine want_lot_sp hp (fun h => ?_) fun h => Gc.same (by simp) (q1 h)
    obtain ⟨L, rfl, hL⟩ := h
    refine world_of_spec hB fun es hT hc => ?_
    try simp
    have := hL.len
    refine parts_in_spec (t := tbl R S) (n := R.length) hL.2 (by omega) ?_
    exact Gc.same (by simpa using cls_tvs) (q L rfl hL)
  · rw [fw_none.mpr ⟨S, rfl, hB.2.2⟩] at h; cases h
end
end Lib
set_option Elab.async false
set_option linter.all false
set_option maxRecDepth 100000
set_option maxHeartbeats 2000000
/-! LibP: the theory of parts. -/
namespace Lib
open PySem PySem.Spec PyProof.Rows L2 DN
/-! the theory of parts -/
/-- links are told both ways -/
def Sym (t : Nat → Nat → List Sd) : Prop := ∀ a b, lk t a b = lk t b a
theorem tbl_sym {R : List Nat} {S : List Sy} : Sym (tbl R S) := fun a b => by
  unfold lk
  congr 1
  simp only [decide_eq_decide]
  have h : ∀ a b, .ap ∈ tbl R S a b ↔ ∀ z ∈ S, (z.x = a ∧ z.y = b → .ap ∈ z.lot) ∧ (z.x = b ∧ z.y = a → .ap ∈ z.lot) := fun a b => by
    unfold tbl
    simp only [List.mem_filter, allS, List.mem_cons, true_or, true_and, List.all_eq_true, Bool.and_eq_true, Bool.or_eq_true, Bool.not_eq_true', decide_eq_true_eq, turn]
    refine forall_congr' fun z => forall_congr' fun hz => ?_
    rw [Bool.and_eq_false_iff, Bool.and_eq_false_iff]
    simp only [decide_eq_false_iff_not]
    grind
  rw [h, h]
  exact ⟨fun g z hz => ⟨(g z hz).2, (g z hz).1⟩, fun g z hz => ⟨(g z hz).2, (g z hz).1⟩⟩
theorem asc_ext : ∀ {l m : List Nat}, l.Pairwise (· < ·) → m.Pairwise (· < ·) → (∀ a, a ∈ l ↔ a ∈ m) → l = m
  | [], [], _, _, _ => rfl
  | [], b :: m, _, _, h => absurd ((h b).mpr (by simp)) (by simp)
  | a :: l, [], _, _, h => absurd ((h a).mp (by simp)) (by simp)
  | a :: l, b :: m, hl, hm, h => by
    obtain ⟨l1, l2⟩ := List.pairwise_cons.mp hl
    obtain ⟨m1, m2⟩ := List.pairwise_cons.mp hm
    have e : a = b := by
      have h1 := (h a).mp (by simp)
      have h2 := (h b).mpr (by simp)
      rcases List.mem_cons.mp h1 with h1 | h1
      · exact h1
      · rcases List.mem_cons.mp h2 with h2 | h2
        · exact h2.symm
        · have := l1 b h2; have := m1 a h1; omega
    subst e
    rw [asc_ext l2 m2 fun c => ?_]
    have := h c
    constructor
    · intro hc
      rcases List.mem_cons.mp (this.mp (by simp [hc])) with e | h'
      · subst e; have := l1 c hc; omega
      · exact h'
    · intro hc
      rcases List.mem_cons.mp (this.mpr (by simp [hc])) with e | h'
      · subst e; have := m1 c hc; omega
      · exact h'
theorem insN_sorted {i : Nat} : ∀ {l : List Nat}, l.Pairwise (· ≤ ·) → (insN i l).Pairwise (· ≤ ·)
  | [], _ => by simp [insN]
  | j :: r, h => by
    obtain ⟨h1, h2⟩ := List.pairwise_cons.mp h
    unfold insN
    split
    · rename_i hij
      refine List.pairwise_cons.mpr ⟨fun a ha => ?_, h⟩
      rcases List.mem_cons.mp ha with rfl | ha
      · exact hij
      · exact Nat.le_trans hij (h1 a ha)
    · refine List.pairwise_cons.mpr ⟨fun a ha => ?_, insN_sorted h2⟩
      have := (insN_perm i r).mem_iff.mp ha
      rcases List.mem_cons.mp this with rfl | ha
      · omega
      · exact h1 a ha
theorem srt_sorted : ∀ l : List Nat, (srt l).Pairwise (· ≤ ·)
  | [] => by simp [srt]
  | i :: r => insN_sorted (srt_sorted r)
theorem lt_of_le_nodup {l : List Nat} (h : l.Pairwise (· ≤ ·)) (nd : l.Nodup) : l.Pairwise (· < ·) :=
  (h.and nd).imp fun h => by have := h.1; have := h.2; omega
theorem srt_asc {l : List Nat} (nd : l.Nodup) : (srt l).Pairwise (· < ·) := lt_of_le_nodup (srt_sorted l) ((srt_perm l).nodup_iff.mpr nd)
theorem asc_nodup {l : List Nat} (h : l.Pairwise (· < ·)) : l.Nodup := h.imp fun h => by omega
theorem srt_mem {l : List Nat} {a : Nat} : a ∈ srt l ↔ a ∈ l := (srt_perm l).mem_iff
theorem srt_of_asc {l : List Nat} (h : l.Pairwise (· < ·)) : srt l = l := asc_ext (srt_asc (asc_nodup h)) h fun _ => srt_mem
theorem asc_filter {l : List Nat} {f : Nat → Bool} (h : l.Pairwise (· < ·)) : (l.filter f).Pairwise (· < ·) := h.sublist List.filter_sublist
section
variable {t : Nat → Nat → List Sd} {L : List Nat} {a b c : Nat}
theorem Rch.trans (h : Rch t L a b) (g : Rch t L b c) : Rch t L a c := by
  induction g with
  | refl => exact h
  | step _ h1 h2 h3 ih => exact .step ih h1 h2 h3
theorem Rch.one (hb : b ∈ L) (h : lk t a b = true) (hn : b ≠ a) : Rch t L a b := .step .refl hb hn h
theorem Rch.memL (ha : a ∈ L) (h : Rch t L a b) : b ∈ L := by
  cases h with
  | refl => exact ha
  | step _ h _ _ => exact h
theorem Rch.symm (hs : Sym t) (ha : a ∈ L) (h : Rch t L a b) : Rch t L b a := by
  induction h with
  | refl => exact .refl
  | @step x y h1 h2 h3 h4 ih => exact .trans (.one (h1.memL ha) (by rw [hs]; exact h4) (Ne.symm h3)) ih
theorem Rch.sub {M : List Nat} (hM : ∀ x ∈ M, x ∈ L) (h : Rch t M a b) : Rch t L a b := by
  induction h with
  | refl => exact .refl
  | step _ h2 h3 h4 ih => exact .step ih (hM _ h2) h3 h4
theorem mem_cmp : b ∈ cmp t L a ↔ b ∈ L ∧ Rch t L a b := by unfold cmp; simp
theorem cmp_congr (hs : Sym t) (ha : a ∈ L) (h : Rch t L a b) : cmp t L a = cmp t L b := by
  unfold cmp
  refine List.filter_congr fun y _ => ?_
  simp only [decide_eq_decide]
  exact ⟨fun g => .trans (h.symm hs ha) g, fun g => .trans h g⟩
/-- what is left when a part is taken out -/
noncomputable def lft (t : Nat → Nat → List Sd) (L : List Nat) (a : Nat) : List Nat := L.filter fun x => !decide (x ∈ cmp t L a)
theorem mem_lft : b ∈ lft t L a ↔ b ∈ L ∧ ¬ Rch t L a b := by
  unfold lft
  simp only [List.mem_filter, mem_cmp, Bool.not_eq_true', decide_eq_false_iff_not]
  exact ⟨fun h => ⟨h.1, fun g => h.2 ⟨h.1, g⟩⟩, fun h => ⟨h.1, fun g => h.2 g.2⟩⟩
theorem Rch.lft (hs : Sym t) (ha : a ∈ L) (hb : b ∈ lft t L a) (h : Rch t L b c) : Rch t (lft t L a) b c := by
  induction h with
  | refl => exact .refl
  | @step x y h1 h2 h3 h4 ih =>
    refine .step ih ?_ h3 h4
    have hb' := mem_lft.mp hb
    refine mem_lft.mpr ⟨h2, fun g => hb'.2 ?_⟩
    have hbx : Rch t L b y := .step h1 h2 h3 h4
    exact .trans g (hbx.symm hs hb'.1)
theorem cmp_lft (hs : Sym t) (ha : a ∈ L) (hb : b ∈ lft t L a) : cmp t (lft t L a) b = cmp t L b := by
  have hb' := mem_lft.mp hb
  have e : cmp t (lft t L a) b = L.filter fun y => decide (y ∈ cmp t (lft t L a) b) := by
    conv => lhs; unfold cmp
    conv => lhs; arg 2; unfold Lib.lft
    rw [List.filter_filter]
    refine List.filter_congr fun y hy => ?_
    rw [Bool.eq_iff_iff]
    simp only [Bool.and_eq_true, decide_eq_true_eq, Bool.not_eq_true', decide_eq_false_iff_not, mem_cmp, mem_lft]
    exact ⟨fun h => ⟨⟨hy, fun g => h.2 ⟨hy, g⟩⟩, h.1⟩, fun h => ⟨h.2, fun g => h.1.2 g.2⟩⟩
  rw [e]
  conv => rhs; unfold cmp
  refine List.filter_congr fun y hy => ?_
  simp only [decide_eq_decide, mem_cmp]
  refine ⟨fun h => h.2.sub fun x hx => (mem_lft.mp hx).1, fun h => ⟨?_, h.lft hs ha hb⟩⟩
  exact (h.lft hs ha hb).memL hb
theorem lft_len (ha : a ∈ L) : (lft t L a).length < L.length := by
  unfold lft
  have h1 : (L.filter (fun x => decide (x ∈ cmp t L a))).length + (L.filter (fun x => !decide (x ∈ cmp t L a))).length = L.length := by
    rw [← List.length_append]; exact (List.filter_append_perm _ _).length_eq
  have h2 : 0 < (L.filter fun x => decide (x ∈ cmp t L a)).length := List.length_pos_of_mem (a := a) (List.mem_filter.mpr ⟨ha, by simp [mem_cmp, ha]; exact .refl⟩)
  omega
theorem pi_ind {P : List Nat → Prop} (h0 : P []) (h1 : ∀ a l, P (lft t (a :: l) a) → P (a :: l)) : ∀ L, P L := fun L => by
  induction hn : L.length using Nat.strongRecOn generalizing L with
  | ind n ih =>
    cases L with
    | nil => exact h0
    | cons a l =>
      exact h1 a l (ih _ (by rw [← hn]; exact lft_len (by simp)) _ rfl)
theorem pi_nil : pi t [] = [] := rfl
theorem pi_cons' {l : List Nat} : pi t (a :: l) = cmp t (a :: l) a :: pi t (lft t (a :: l) a) := pi_cons
theorem mem_pi (hs : Sym t) {P : List Nat} : ∀ {L : List Nat}, P ∈ pi t L ↔ ∃ a ∈ L, P = cmp t L a := fun {L} => by
  refine pi_ind (t := t) (P := fun L => P ∈ pi t L ↔ ∃ a ∈ L, P = cmp t L a) (by simp [pi_nil]) (fun a l ih => ?_) L
  rw [pi_cons', List.mem_cons, ih]
  constructor
  · rintro (rfl | ⟨b, hb, rfl⟩)
    · exact ⟨a, by simp, rfl⟩
    · exact ⟨b, (mem_lft.mp hb).1, cmp_lft hs (by simp) hb⟩
  · rintro ⟨b, hb, rfl⟩
    by_cases h : Rch t (a :: l) a b
    · exact .inl (cmp_congr hs (by simp) h).symm
    · have := mem_lft.mpr ⟨hb, h⟩
      exact .inr ⟨b, this, (cmp_lft hs (by simp) this).symm⟩
theorem pi_perm : ∀ {L : List Nat}, (pi t L).flatten.Perm L := fun {L} => by
  refine pi_ind (t := t) (P := fun L => (pi t L).flatten.Perm L) (by simp [pi_nil]) (fun a l ih => ?_) L
  rw [pi_cons', List.flatten_cons]
  refine ((ih.append_left _)).trans ?_
  have e : cmp t (a :: l) a = (a :: l).filter fun x => decide (x ∈ cmp t (a :: l) a) := by
    conv => lhs; unfold cmp
    refine List.filter_congr fun y hy => ?_
    simp only [decide_eq_decide, mem_cmp]
    exact ⟨fun h => ⟨hy, h⟩, fun h => h.2⟩
  conv => lhs; lhs; rw [e]
  exact List.filter_append_perm _ _
theorem pi_pos {P : List Nat} : ∀ {L : List Nat}, P ∈ pi t L → P ≠ [] := fun {L} => by
  refine pi_ind (t := t) (P := fun L => P ∈ pi t L → P ≠ []) (by simp [pi_nil]) (fun a l ih h => ?_) L
  rw [pi_cons', List.mem_cons] at h
  rcases h with rfl | h
  · exact List.ne_nil_of_mem (a := a) (mem_cmp.mpr ⟨by simp, .refl⟩)
  · exact ih h
theorem pi_sub {P : List Nat} (hP : P ∈ pi t L) : ∀ a ∈ P, a ∈ L := fun a ha => (pi_perm (t := t)).mem_iff.mp (List.mem_flatten.mpr ⟨P, hP, ha⟩)
theorem pi_asc {P : List Nat} (hL : L.Pairwise (· < ·)) (hP : P ∈ pi t L) : P.Pairwise (· < ·) := by
  revert hL hP
  refine pi_ind (t := t) (P := fun L => L.Pairwise (· < ·) → P ∈ pi t L → P.Pairwise (· < ·)) (by simp [pi_nil]) (fun a l ih hL h => ?_) L
  rw [pi_cons', List.mem_cons] at h
  rcases h with rfl | h
  · unfold cmp; exact asc_filter hL
  · refine ih ?_ h
    unfold lft; exact asc_filter hL
theorem cmp_head {l : List Nat} : ∃ m, cmp t (a :: l) a = a :: m ∧ ∀ b ∈ m, b ∈ l := by
  unfold cmp
  rw [List.filter_cons, if_pos (by simp; exact .refl)]
  exact ⟨_, rfl, fun b hb => (List.mem_filter.mp hb).1⟩
/-- the parts stand in the order of their least things -/
theorem pi_heads : ∀ {L : List Nat}, L.Pairwise (· < ·) → (pi t L).Pairwise fun P Q => ∃ a P', P = a :: P' ∧ ∀ b ∈ Q, a < b := fun {L} => by
  refine pi_ind (t := t) (P := fun L => L.Pairwise (· < ·) → (pi t L).Pairwise fun P Q => ∃ a P', P = a :: P' ∧ ∀ b ∈ Q, a < b) (by simp [pi_nil]) (fun a l ih hL => ?_) L
  rw [pi_cons']
  have hl : (lft t (a :: l) a).Pairwise (· < ·) := by unfold lft; exact asc_filter hL
  refine List.pairwise_cons.mpr ⟨fun Q hQ => ?_, ih hl⟩
  obtain ⟨m, e, _⟩ := cmp_head (t := t) (a := a) (l := l)
  refine ⟨a, m, e, fun b hb => ?_⟩
  have h1 := mem_lft.mp (pi_sub hQ b hb)
  rcases List.mem_cons.mp h1.1 with rfl | h2
  · exact absurd .refl h1.2
  · exact (List.pairwise_cons.mp hL).1 b h2
theorem flat_nodup' {l : List (List Nat)} (h : l.flatten.Nodup) (hp : ∀ P ∈ l, P ≠ []) : l.Nodup := by
  induction l with
  | nil => simp
  | cons P l ih =>
    rw [List.flatten_cons] at h
    obtain ⟨h1, h2, h3⟩ := List.nodup_append.mp h
    refine List.nodup_cons.mpr ⟨fun hm => ?_, ih h2 fun Q hQ => hp Q (by simp [hQ])⟩
    obtain ⟨a, P', rfl⟩ := List.exists_cons_of_ne_nil (hp P (by simp))
    exact h3 a (by simp) a (List.mem_flatten.mpr ⟨_, hm, by simp⟩) rfl
/-! the law's own parts are these -/
theorem grow_ok : ∀ (k : Nat) (L left part : List Nat) (i a : Nat), L.Nodup → (left = L.filter fun y => !decide (y ∈ part)) → part.Nodup → (∀ y ∈ part, y ∈ L) → (∀ y ∈ part, Rch t L a y) → (∀ j u, j < i → part[j]? = some u → ∀ y ∈ left, lk t u y = false) → L.length ≤ k + i →
    ∃ m, (grow t k left part i).2 = part ++ m ∧ ((grow t k left part i).1 = L.filter fun y => !decide (y ∈ part ++ m)) ∧ (part ++ m).Nodup ∧ (∀ y ∈ part ++ m, y ∈ L ∧ Rch t L a y) ∧ (∀ u ∈ part ++ m, ∀ y ∈ (grow t k left part i).1, lk t u y = false)
  | 0, L, left, part, i, a, hn, e, nd, hp, hr, hc, hk => by
    refine ⟨[], by simp [grow], by simp [grow, e], by simpa using nd, fun y hy => by simp at hy; exact ⟨hp y hy, hr y hy⟩, fun u hu y hy => ?_⟩
    simp at hu
    obtain ⟨j, hj⟩ := List.mem_iff_getElem?.mp hu
    have h1 := (List.getElem?_eq_some_iff.mp hj).1
    have h2 : part.length ≤ L.length := nodup_sub_len nd hp
    exact hc j u (by omega) hj y (by simpa [grow] using hy)
  | k + 1, L, left, part, i, a, hn, e, nd, hp, hr, hc, hk => by
    unfold grow
    cases q : part[i]? with
    | none =>
      refine ⟨[], by simp, by simp [e], by simpa using nd, fun y hy => by simp at hy; exact ⟨hp y hy, hr y hy⟩, fun u hu y hy => ?_⟩
      simp at hu
      obtain ⟨j, hj⟩ := List.mem_iff_getElem?.mp hu
      have h1 := (List.getElem?_eq_some_iff.mp hj).1
      have h2 := List.getElem?_eq_none_iff.mp q
      exact hc j u (by omega) hj y hy
    | some u =>
      have hu : u ∈ part := List.mem_of_getElem? q
      have hl : ∀ y ∈ left, y ∈ L ∧ y ∉ part := fun y hy => by rw [e] at hy; simpa using hy
      have e1 : (left.filter fun y => !lk t u y) = L.filter fun y => !decide (y ∈ part ++ left.filter fun y => lk t u y) := by
        rw [e, List.filter_filter]
        refine List.filter_congr fun y hy => ?_
        rw [Bool.eq_iff_iff]
        simp only [Bool.and_eq_true, Bool.not_eq_true', decide_eq_false_iff_not, List.mem_append, List.mem_filter]
        constructor
        · rintro ⟨h1, h2⟩ (h3 | h3)
          · exact h2 h3
          · rw [h1] at h3; cases h3.2
        · intro h
          refine ⟨?_, fun h3 => h (.inl h3)⟩
          cases hq : lk t u y with
          | false => rfl
          | true => exact absurd (.inr ⟨⟨hy, by simpa using fun h3 => h (.inl h3)⟩, hq⟩) h
      have nd2 : (part ++ left.filter fun y => lk t u y).Nodup := by
        refine List.nodup_append.mpr ⟨nd, ?_, fun x hx y hy => ?_⟩
        · rw [e]; exact (hn.sublist List.filter_sublist).sublist List.filter_sublist
        · rintro rfl
          exact (hl x (List.mem_filter.mp hy).1).2 hx
      obtain ⟨m, h1, h2, h3, h4, h5⟩ := grow_ok k L (left.filter fun y => !lk t u y) (part ++ left.filter fun y => lk t u y) (i + 1) a hn e1 nd2 (fun y hy => by
        rcases List.mem_append.mp hy with h | h
        · exact hp y h
        · exact (hl y (List.mem_filter.mp h).1).1) (fun y hy => by
        rcases List.mem_append.mp hy with h | h
        · exact hr y h
        · have h' := List.mem_filter.mp h
          have h'' := hl y h'.1
          exact .step (hr u hu) h''.1 (fun e => h''.2 (by rw [e]; exact hu)) h'.2) (fun j v hj hv y hy => by
        have hy' := List.mem_filter.mp hy
        have hlt := (List.getElem?_eq_some_iff.mp q).1
        by_cases hji : j = i
        · subst hji
          rw [List.getElem?_append_left hlt, q] at hv
          cases hv
          simpa using hy'.2
        · rw [List.getElem?_append_left (by omega)] at hv
          exact hc j v (by omega) hv y hy'.1) (by omega)
      refine ⟨(left.filter fun y => lk t u y) ++ m, by simp [h1], by simp only [h2, List.append_assoc], by simpa using h3, fun y hy => h4 y (by simpa using hy), fun v hv y hy => h5 v (by simpa using hv) y hy⟩
theorem grow_cmp {l : List Nat} (hL : (a :: l).Pairwise (· < ·)) : srt (grow t (l.length + 1) l [a] 0).2 = cmp t (a :: l) a ∧ (grow t (l.length + 1) l [a] 0).1 = lft t (a :: l) a := by
  have hn := asc_nodup hL
  have hna : a ∉ l := (List.nodup_cons.mp hn).1
  obtain ⟨m, h1, h2, h3, h4, h5⟩ := grow_ok (t := t) (l.length + 1) (a :: l) l [a] 0 a hn (by
    rw [List.filter_cons, if_neg (by simp)]
    exact (List.filter_eq_self.mpr fun y hy => by simp; rintro rfl; exact hna hy).symm) (by simp) (by simp) (fun y hy => by simp at hy; subst hy; exact .refl) (fun j u hj => absurd hj (by omega)) (by simp)
  have hm : ∀ y, y ∈ [a] ++ m ↔ y ∈ a :: l ∧ Rch t (a :: l) a y := fun y => by
    refine ⟨h4 y, fun h => ?_⟩
    have : ∀ z, Rch t (a :: l) a z → z ∈ [a] ++ m := fun z hz => by
      induction hz with
      | refl => simp
      | @step x z g1 g2 g3 g4 ih =>
        refine Classical.byContradiction fun hz => ?_
        have := h5 x ih z (by rw [h2]; exact List.mem_filter.mpr ⟨g2, by simpa using hz⟩)
        rw [g4] at this; cases this
    exact this y h.2
  refine ⟨asc_ext (srt_asc (by rw [h1]; exact h3)) (by unfold cmp; exact asc_filter hL) fun y => ?_, ?_⟩
  · rw [srt_mem, h1, hm, mem_cmp]
  · rw [h2]
    unfold lft
    refine List.filter_congr fun y hy => ?_
    congr 1
    simp only [decide_eq_decide, hm, mem_cmp]
theorem prt_pi : ∀ (k : Nat) (l : List Nat), l.Pairwise (· < ·) → l.length ≤ k → prt t k l = pi t l
  | k, [], _, _ => by cases k <;> simp [prt, pi_nil]
  | 0, a :: l, _, h => by simp at h
  | k + 1, a :: l, hL, h => by
    obtain ⟨h1, h2⟩ := grow_cmp (t := t) hL
    rw [prt, h1, h2, pi_cons', prt_pi k _ (by unfold lft; exact asc_filter hL) (by have := lft_len (t := t) (L := a :: l) (a := a) (by simp); simp at this h; omega)]
theorem pt_pi (hL : L.Nodup) : pt t L = pi t (srt L) := by
  unfold pt
  exact prt_pi _ _ (srt_asc hL) (by rw [(srt_perm L).length_eq]; exact Nat.le_refl _)
end
end Lib
set_option Elab.async false
set_option linter.all false
set_option maxRecDepth 100000
set_option maxHeartbeats 2000000
/-! LibQ: parts by joining rows, link by link. -/
namespace Lib
open PySem PySem.Spec PyProof.Rows L2 DN
/-! parts by joining rows link by link -/
def jn (x y : Nat) (rows : List (List Nat)) : List (List Nat) :=
  (rows.filter fun r => !decide (x ∈ r) && !decide (y ∈ r)) ++ [(rows.filter fun r => decide (x ∈ r) || decide (y ∈ r)).flatten]
structure CI (t : Nat → Nat → List Sd) (L : List Nat) (P : List (Nat × Nat)) (rows : List (List Nat)) : Prop where
  perm : rows.flatten.Perm L
  pos : ∀ r ∈ rows, r ≠ []
  con : ∀ r ∈ rows, ∀ a ∈ r, ∀ b ∈ r, Rch t L a b
  lnk : ∀ l ∈ P, l.1 ∈ L → l.2 ∈ L → ∃ r ∈ rows, l.1 ∈ r ∧ l.2 ∈ r
section
variable {t : Nat → Nat → List Sd} {L : List Nat} {P : List (Nat × Nat)} {rows : List (List Nat)} {x y : Nat}
theorem CI.init : CI t L [] (L.map fun x => [x]) where
  perm := by
    have : (L.map fun x => [x]).flatten = L := by induction L with | nil => rfl | cons a l ih => simp [ih]
    rw [this]
  pos r hr := by
    obtain ⟨a, _, rfl⟩ := List.mem_map.mp hr
    simp
  con r hr a ha b hb := by
    obtain ⟨c, _, rfl⟩ := List.mem_map.mp hr
    simp at ha hb
    subst ha; subst hb
    exact .refl
  lnk l hl := by cases hl
theorem CI.skip (h : CI t L P rows) (n : ¬ (x ∈ L ∧ y ∈ L)) : CI t L (P ++ [(x, y)]) rows where
  perm := h.perm
  pos := h.pos
  con := h.con
  lnk l hl h1 h2 := by
    rcases List.mem_append.mp hl with hl | hl
    · exact h.lnk l hl h1 h2
    · simp at hl; subst hl; exact absurd ⟨h1, h2⟩ n
theorem jn_split (r : List Nat) : (!decide (x ∈ r) && !decide (y ∈ r)) = !(decide (x ∈ r) || decide (y ∈ r)) := by simp
theorem CI.step (hs : Sym t) (h : CI t L P rows) (hx : x ∈ L) (hy : y ∈ L) (hn : x ≠ y) (hl : lk t x y = true) : CI t L (P ++ [(x, y)]) (jn x y rows) := by
  have hxy : Rch t L x y := .one hy hl (Ne.symm hn)
  have hyx : Rch t L y x := hxy.symm hs hx
  obtain ⟨rx, hrx, hxr⟩ := List.mem_flatten.mp (h.perm.mem_iff.mpr hx)
  obtain ⟨ry, hry, hyr⟩ := List.mem_flatten.mp (h.perm.mem_iff.mpr hy)
  have jm : ∀ r ∈ rows, (x ∈ r ∨ y ∈ r) → ∀ a ∈ r, a ∈ (rows.filter fun r => decide (x ∈ r) || decide (y ∈ r)).flatten := fun r hr hxy a ha => List.mem_flatten.mpr ⟨r, List.mem_filter.mpr ⟨hr, by simpa using hxy⟩, ha⟩
  have to : ∀ a ∈ (rows.filter fun r => decide (x ∈ r) || decide (y ∈ r)).flatten, Rch t L a x ∧ Rch t L x a := fun a ha => by
    obtain ⟨r, hr, ha⟩ := List.mem_flatten.mp ha
    obtain ⟨hr, hr2⟩ := List.mem_filter.mp hr
    simp at hr2
    rcases hr2 with h1 | h1
    · exact ⟨h.con r hr a ha x h1, h.con r hr x h1 a ha⟩
    · exact ⟨.trans (h.con r hr a ha y h1) hyx, .trans hxy (h.con r hr y h1 a ha)⟩
  refine ⟨?_, fun r hr => ?_, fun r hr a ha b hb => ?_, fun l hl h1 h2 => ?_⟩
  · refine List.Perm.trans ?_ h.perm
    unfold jn
    rw [List.flatten_append, List.flatten_singleton, ← List.flatten_append]
    refine List.Perm.flatten ?_
    simp only [jn_split]
    exact List.perm_append_comm.trans (List.filter_append_perm _ _)
  · rcases List.mem_append.mp hr with hr | hr
    · exact h.pos r (List.mem_filter.mp hr).1
    · simp only [List.mem_singleton] at hr
      subst hr
      exact List.ne_nil_of_mem (jm rx hrx (.inl hxr) x hxr)
  · rcases List.mem_append.mp hr with hr | hr
    · exact h.con r (List.mem_filter.mp hr).1 a ha b hb
    · simp only [List.mem_singleton] at hr
      subst hr
      exact .trans (to a ha).1 (to b hb).2
  · rcases List.mem_append.mp hl with hl | hl
    · obtain ⟨r, hr, g1, g2⟩ := h.lnk l hl h1 h2
      by_cases q : x ∈ r ∨ y ∈ r
      · exact ⟨_, List.mem_append.mpr (.inr (List.mem_singleton.mpr rfl)), jm r hr q _ g1, jm r hr q _ g2⟩
      · exact ⟨r, List.mem_append.mpr (.inl (List.mem_filter.mpr ⟨hr, by simpa [not_or] using q⟩)), g1, g2⟩
    · simp at hl
      subst hl
      exact ⟨_, List.mem_append.mpr (.inr (List.mem_singleton.mpr rfl)), jm rx hrx (.inl hxr) _ hxr, jm ry hry (.inr hyr) _ hyr⟩
theorem CI.fin (hs : Sym t) (hL : L.Pairwise (· < ·)) (h : CI t L P rows) (hc : ∀ a ∈ L, ∀ b ∈ L, b ≠ a → lk t a b = true → (a, b) ∈ P ∨ (b, a) ∈ P) : (rows.map srt).Perm (pi t L) := by
  have hn := asc_nodup hL
  have hf : rows.flatten.Nodup := h.perm.nodup_iff.mpr hn
  have rn : ∀ r ∈ rows, r.Nodup := fun r hr => flat_nodup hf hr
  have same : ∀ (rs : List (List Nat)), rs.flatten.Nodup → ∀ r ∈ rs, ∀ r' ∈ rs, ∀ a, a ∈ r → a ∈ r' → r = r' := by
    intro rs
    induction rs with
    | nil => intro _ r hr; cases hr
    | cons q rs ih =>
      intro hf r hr r' hr' a ha ha'
      rw [List.flatten_cons] at hf
      obtain ⟨h1, h2, h3⟩ := List.nodup_append.mp hf
      rcases List.mem_cons.mp hr with e | g <;> rcases List.mem_cons.mp hr' with e' | g'
      · rw [e, e']
      · subst e; exact absurd rfl (h3 a ha a (List.mem_flatten.mpr ⟨r', g', ha'⟩))
      · subst e'; exact absurd rfl (h3 a ha' a (List.mem_flatten.mpr ⟨r, g, ha⟩))
      · exact ih h2 r g r' g' a ha ha'
  have cl : ∀ r ∈ rows, ∀ a ∈ r, ∀ b, Rch t L a b → b ∈ r := fun r hr a ha b hb => by
    have haL : a ∈ L := h.perm.mem_iff.mp (List.mem_flatten.mpr ⟨r, hr, ha⟩)
    induction hb with
    | refl => exact ha
    | @step u v g1 g2 g3 g4 ih =>
      have hu := g1.memL haL
      have : ∃ r' ∈ rows, u ∈ r' ∧ v ∈ r' := by
        rcases hc u hu v g2 g3 g4 with g | g
        · obtain ⟨r', h1, h2, h3⟩ := h.lnk _ g hu g2; exact ⟨r', h1, h2, h3⟩
        · obtain ⟨r', h1, h2, h3⟩ := h.lnk _ g g2 hu; exact ⟨r', h1, h3, h2⟩
      obtain ⟨r', h1, h2, h3⟩ := this
      rw [same rows hf r hr r' h1 u ih h2]
      exact h3
  have key : ∀ r ∈ rows, ∀ a ∈ r, srt r = cmp t L a := fun r hr a ha => by
    refine asc_ext (srt_asc (rn r hr)) (by unfold cmp; exact asc_filter hL) fun b => ?_
    rw [srt_mem, mem_cmp]
    have haL : a ∈ L := h.perm.mem_iff.mp (List.mem_flatten.mpr ⟨r, hr, ha⟩)
    exact ⟨fun hb => ⟨h.perm.mem_iff.mp (List.mem_flatten.mpr ⟨r, hr, hb⟩), h.con r hr a ha b hb⟩, fun hb => cl r hr a ha b hb.2⟩
  have sp : ∀ rs : List (List Nat), (rs.map srt).flatten.Perm rs.flatten := by
    intro rs
    induction rs with
    | nil => exact .refl _
    | cons r rs ih => simp only [List.map_cons, List.flatten_cons]; exact (srt_perm r).append ih
  refine (List.perm_ext_iff_of_nodup (flat_nodup' ((sp rows).nodup_iff.mpr hf) fun p hp => ?_) (flat_nodup' ((pi_perm (t := t)).nodup_iff.mpr hn) fun p hp => pi_pos hp)).mpr fun p => ?_
  · obtain ⟨r, hr, rfl⟩ := List.mem_map.mp hp
    intro e
    have := (srt_perm r).length_eq
    rw [e] at this
    exact h.pos r hr (List.length_eq_zero_iff.mp this.symm)
  · rw [mem_pi hs, List.mem_map]
    constructor
    · rintro ⟨r, hr, rfl⟩
      obtain ⟨a, m, rfl⟩ := List.exists_cons_of_ne_nil (h.pos r hr)
      exact ⟨a, h.perm.mem_iff.mp (List.mem_flatten.mpr ⟨_, hr, by simp⟩), key _ hr a (by simp)⟩
    · rintro ⟨a, ha, rfl⟩
      obtain ⟨r, hr, har⟩ := List.mem_flatten.mp (h.perm.mem_iff.mpr ha)
      exact ⟨r, hr, key r hr a har⟩
end
end Lib
set_option Elab.async false
set_option linter.all false
set_option maxRecDepth 100000
set_option maxHeartbeats 2000000
/-! K05L: what the law's own looks tell. -/
namespace K05
open PySem PySem.Spec PyProof.Rows L2 DN Lib
variable {Xp : EP}
section
variable {Q : PV → Store → Prop} {st : Store} {R : List Nat} {S : List Sy} {x y n s : Nat} {p f : PV} {t : Nat → Nat → List Sd} {L : List Nat}
theorem dab_tvs {Ps : List (List Nat)} {m : Nat} : (Ps.map tv).all (dab (m + 1)) = true := by
  simp only [List.all_eq_true, List.mem_map]
  rintro p ⟨P, _, rfl⟩
  exact dab_tv (by omega)
theorem dpv_tv {P : List Nat} {m : Nat} : dpv (m + 1) (tv P) = true := by simp only [tv, dpv]; exact all_nvs
theorem is_told_spec {Ps : List (List Nat)} (hz : Ps.length ≤ 1000) (q : Q (.bl true) st) : (wpX Xp) (d__law_is_told [.tup (Ps.map tv), .tup (Ps.map tv)] st) Q := by
  refine wp_fn ?_
  have hd : dab 20 (.tup (Ps.map tv)) = true := by simp only [dab]; exact dab_tvs
  simp [wp_isTup hd, isTp]
  refine ⟨rgN hz, ?_⟩
  refine wps_forRo (fun i σ st' => ∃ k : Nat, i = k ∧ k ≤ Ps.length ∧ σ = [some (.tup (Ps.map tv)), some (.tup (Ps.map tv)), none, none] ∧ st' = st) ?_ ?_ ⟨0, rfl, by omega, rfl, rfl⟩
  · rintro I hI i σ st' ⟨k, rfl, hk, rfl, rfl⟩ hi
    have hk' : k < Ps.length := by omega
    have e := atI_map (f := tv) hk'
    simp [e, wp_isTup (dab_tv (L := Ps[k]) (m := 20) (by omega))]
    have : isTp (tv Ps[k]) = true := rfl
    simp [this]
    rw [wp_neD (dpv_tv (m := 63)) (dpv_tv (m := 63))]
    simp [tv]
    refine wp_lcF (fun _ => false) nv _ (fun a _ => ?_) ?_
    · simp [wipeA]
      rw [wp_isBool (n := 1) (by simp [nv, dab])]
      simp [isBo, nv]
    · rw [show Ps[k].filter (fun _ => false) = [] from List.filter_eq_nil_iff.mpr (by simp)]
      simp
      rw [wp_neNil (by simp)]
      simp [wipeA]
      exact hI _ _ _ ⟨k + 1, by simp, by omega, rfl, rfl⟩
  · rintro i σ st' ⟨k, rfl, hk, rfl, rfl⟩ hi
    try simp [wipeA]
    exact Gc.same (by simp) q
def kk (P : List Nat) : List Key := P.map fun (a : Nat) => (.inl (a : Int) : Key)
theorem tkv_kk {P : List Nat} : tkv (kk P) = tv P := by
  simp only [tkv, kk, tv, List.map_map]
  congr 1
theorem tkv_kks {Ps : List (List Nat)} : (Ps.map kk).map tkv = Ps.map tv := by
  rw [List.map_map]
  exact List.map_congr_left fun P _ => tkv_kk
theorem okp_kk : ∀ {P P' : List Nat}, okp (kk P) (kk P') = true
  | [], _ => rfl
  | _ :: _, [] => rfl
  | a :: P, b :: P' => by
    have ih := okp_kk (P := P) (P' := P')
    simp only [kk, List.map_cons] at ih ⊢
    unfold okp
    split
    · exact ih
    · rfl
theorem okKs_kk {Ps : List (List Nat)} (h : ∀ P ∈ Ps, P ≠ []) : okKs (Ps.map kk) = true := by
  simp only [okKs, List.all_eq_true, List.mem_map]
  rintro _ ⟨P, hP, rfl⟩ _ ⟨P', hP', rfl⟩
  rw [okp_kk]
  obtain ⟨a, l, rfl⟩ := List.exists_cons_of_ne_nil (h P hP)
  obtain ⟨b, m, rfl⟩ := List.exists_cons_of_ne_nil (h P' hP')
  rfl
theorem kLt_head {a b : Nat} {l m : List Nat} (h : a < b) : kLt (kk (a :: l)) (kk (b :: m)) = true := by
  simp only [kk, List.map_cons]
  unfold kLt
  rw [if_neg (by simp; omega)]
  simp [aLt]; omega
/-- the sorted rows are the parts -/
theorem sort_pi {rows : List (List Nat)} (hL : L.Pairwise (· < ·)) (h : rows.Perm (pi t L)) : ksort (rows.map kk) = (pi t L).map kk := by
  refine (ksort_uniq ((h.map kk).symm) ?_).symm
  refine List.pairwise_map.mpr ?_
  have hp : ∀ P ∈ pi t L, P ≠ [] := fun P h => pi_pos h
  have hh := pi_heads (t := t) hL
  revert hp hh
  generalize pi t L = Ps
  intro hp hh
  refine hh.imp_of_mem ?_
  rintro P P' hP hP' ⟨a, l, rfl, hb⟩
  obtain ⟨b, m, rfl⟩ := List.exists_cons_of_ne_nil (hp P' hP')
  exact kLt_asym (kLt_head (hb b (by simp)))
theorem sub_flat {l m : List (List Nat)} (h : l.Sublist m) : l.flatten.length ≤ m.flatten.length := by
  induction h with
  | slnil => exact Nat.le_refl _
  | cons a _ ih => simp only [List.flatten_cons, List.length_append]; omega
  | cons_cons a _ ih => simp only [List.flatten_cons, List.length_append]; omega
theorem len_flat {rows : List (List Nat)} (hp : ∀ r ∈ rows, r ≠ []) : rows.length ≤ rows.flatten.length := flat_len hp
theorem closed_spec {Ls : List (Nat × Nat)} (hs : Sym t) (hL : L.Pairwise (· < ·)) (hz : L.length ≤ 1000) (hl : ∀ l ∈ Ls, l.1 ≠ l.2 ∧ lk t l.1 l.2 = true)
    (hc : ∀ a ∈ L, ∀ b ∈ L, b ≠ a → lk t a b = true → (a, b) ∈ Ls ∨ (b, a) ∈ Ls) (q : Q (.tup ((pi t L).map tv)) st) : (wpX Xp) (d__law_closed [.lst (Ls.map pp), tv L] st) Q := by
  refine wp_fn ?_
  let lv : List Nat → PV := fun r => .lst (r.map nv)
  simp [tv]
  refine wp_lcF (fun _ => true) (fun a => lv [a]) _ (fun a _ => ?_) ?_
  · simp [wipeA, lv]
  rw [List.filter_eq_self.mpr (fun _ _ => rfl)]
  have e0 : (L.map fun a => lv [a]) = (L.map fun a => [a]).map lv := by rw [List.map_map]; rfl
  rw [e0]
  try simp
  refine ⟨by omega, ?_⟩
  have e1 : (L.map (lv ∘ fun a => [a])) = (L.map fun a => [a]).map lv := by rw [List.map_map]
  try rw [e1]
  refine wps_forM (g := pp) (fun r σ st' => ∃ (P : List (Nat × Nat)) (rows : List (List Nat)), Ls = P ++ r ∧ σ = [some (.lst (Ls.map pp)), some (.tup (L.map nv)), some (.lst (rows.map lv)), none, none, none, none] ∧ st' = st ∧ CI t L P rows) _ ?_ ?_ ⟨[], _, rfl, rfl, rfl, CI.init⟩
  · rintro I hI ⟨a, b⟩ r σ st0 ⟨P, rows, e, rfl, rfl, h⟩
    have hab := hl (a, b) (by rw [e]; simp)
    simp only [] at hab
    have hrl := len_flat h.pos
    rw [h.perm.length_eq] at hrl
    have cont := h
    have hflt : ∀ (f : List Nat → Bool), (rows.filter f).flatten.length ≤ L.length := fun f => by
      rw [← h.perm.length_eq]
      exact sub_flat List.filter_sublist
    simp [pp]
    rw [wp_inNT]
    simp only [wp_tB_bl]
    by_cases ha : a ∈ L
    · rw [cnd_pos (decide_eq_true ha), wp_inNT]
      simp only [wp_tB_bl]
      by_cases hb : b ∈ L
      · rw [cnd_pos (decide_eq_true hb)]
        try simp
        refine wps_forM (g := lv) (fun (rr : List (List Nat)) σ st' => ∃ D : List (List Nat), rows = D ++ rr ∧ σ = [some (.lst (Ls.map pp)), some (.tup (L.map nv)), some (.lst (rows.map lv)), some (.int a), some (.int b), some (lv (D.filter fun r => decide (a ∈ r) || decide (b ∈ r)).flatten), none] ∧ st' = st0) _ ?_ ?_ ⟨[], rfl, by simp [lv], rfl⟩
        · rintro I2 hI2 w rr σ st' ⟨D, e2, rfl, rfl⟩
          simp [lv]
          rw [wp_inNL]
          simp only [wp_tB_bl]
          have hD : (D.filter fun r => decide (a ∈ r) || decide (b ∈ r)).flatten.length + w.length ≤ L.length := by
            have hsub : (D ++ [w]).flatten.length ≤ L.length := by
              rw [← h.perm.length_eq, e2]
              have : (D ++ [w]).Sublist (D ++ w :: rr) := by simp
              exact sub_flat this
            have h2 : (D.filter fun r => decide (a ∈ r) || decide (b ∈ r)).flatten.length ≤ D.flatten.length := sub_flat List.filter_sublist
            simp only [List.flatten_append, List.flatten_singleton, List.length_append] at hsub
            omega
          have hD' : (List.map (List.length ∘ List.map nv) (D.filter fun r => decide (a ∈ r) || decide (b ∈ r))).sum + w.length ≤ 16777216 := by
            have e : (List.length ∘ List.map nv) = (List.length : List Nat → Nat) := by funext l; simp
            rw [List.length_flatten] at hD; rw [e]; omega
          have key : (decide (a ∈ w) || decide (b ∈ w)) = true → I2 rr [some (.lst (Ls.map pp)), some (.tup (L.map nv)), some (.lst (rows.map lv)), some (.int a), some (.int b), some (lv ((D.filter fun r => decide (a ∈ r) || decide (b ∈ r)).flatten ++ w)), none] st' := fun hk =>
            hI2 _ _ _ ⟨D ++ [w], by simp [e2], by simp [List.filter_append, List.filter_cons, hk], rfl⟩
          have key2 : (decide (a ∈ w) || decide (b ∈ w)) = false → I2 rr [some (.lst (Ls.map pp)), some (.tup (L.map nv)), some (.lst (rows.map lv)), some (.int a), some (.int b), some (lv (D.filter fun r => decide (a ∈ r) || decide (b ∈ r)).flatten), none] st' := fun hk =>
            hI2 _ _ _ ⟨D ++ [w], by simp [e2], by simp [List.filter_append, List.filter_cons, hk], rfl⟩
          simp only [lv, List.map_append] at key key2
          by_cases h1 : a ∈ w
          · rw [cnd_pos (decide_eq_true h1)]
            simp [wipeA]
            exact ⟨hD', by simpa using key (by simp [h1])⟩
          · rw [cnd_neg (decide_eq_false h1), wp_inNL]
            simp only [wp_tB_bl]
            by_cases h2 : b ∈ w
            · rw [cnd_pos (decide_eq_true h2)]
              simp [wipeA]
              exact ⟨hD', by simpa using key (by simp [h2])⟩
            · rw [cnd_neg (decide_eq_false h2)]
              simp [wipeA]
              simpa using key2 (by simp [h1, h2])
        · rintro σ st' ⟨D, e2, rfl, rfl⟩
          have : rows = D := by simpa using e2
          subst this
          simp [wipeA]
          refine wp_lcF (fun r => !decide (a ∈ r) && !decide (b ∈ r)) lv _ (fun w _ => ?_) ?_
          · simp [wipeA, lv]
            rw [wp_ninNL]
            simp only [wp_tB_bl]
            by_cases h1 : a ∈ w
            · rw [cnd_neg (by simp [h1])]
              simp [h1]
            · rw [cnd_pos (by simp [h1]), wp_ninNL]
              simp only [wp_tB_bl]
              by_cases h2 : b ∈ w <;> simp [h1, h2]
          · have hlen := List.length_filter_le (fun r => !decide (a ∈ r) && !decide (b ∈ r)) rows
            simp
            refine ⟨by omega, by omega, ?_⟩
            refine hI _ _ _ ⟨P ++ [(a, b)], jn a b rows, by simp [e], ?_, rfl, h.step hs ha hb hab.1 hab.2⟩
            simp [jn, lv]
      · rw [cnd_neg (decide_eq_false hb)]
        simp [wipeA]
        exact hI _ _ _ ⟨P ++ [(a, b)], rows, by simp [e], rfl, rfl, h.skip fun g => hb g.2⟩
    · rw [cnd_neg (decide_eq_false ha)]
      simp [wipeA]
      exact hI _ _ _ ⟨P ++ [(a, b)], rows, by simp [e], rfl, rfl, h.skip fun g => ha g.1⟩
  · rintro σ st' ⟨P, rows, e, rfl, rfl, h⟩
    have : Ls = P := by simpa using e
    subst this
    have hrl := len_flat h.pos
    rw [h.perm.length_eq] at hrl
    simp [wipeA]
    refine wp_lcF (fun _ => true) (fun r => tv (srt r)) _ (fun r _ => ?_) ?_
    · simp [wipeA, lv]
      rw [wp_srtN]
      simp [tv]
    · rw [List.filter_eq_self.mpr (fun _ _ => rfl)]
      have e2 : (rows.map fun r => tv (srt r)) = ((rows.map srt).map kk).map tkv := by rw [tkv_kks, List.map_map]; rfl
      rw [e2]
      have hfin := h.fin hs hL hc
      simp only [wp_mLst, List.length_map, SZ_lit]
      refine ⟨by omega, ?_⟩
      rw [wp_srtT (l := (rows.map srt).map kk) rfl (okKs_kk fun P hP => ?_), sort_pi hL hfin, tkv_kks]
      · simp
        exact Gc.same (by simpa using cls_tvs) q
      · exact pi_pos (hfin.mem_iff.mp hP)
end
end K05
set_option Elab.async false
set_option linter.all false
set_option maxRecDepth 100000
set_option maxHeartbeats 2000000
/-! LibR: draws, more of them. -/
namespace Lib
open PySem PySem.Spec PyProof.Rows L2 DN
variable {Xp : EP}
theorem cls_map {α : Type} {g : α → PV} (hg : ∀ a, DN.cl (g a) = true) {l : List α} : cls (l.map g) = true := cls_iff.mpr fun p hp => by
  obtain ⟨a, _, rfl⟩ := List.mem_map.mp hp
  exact hg a
section
variable {Q : PV → Store → Prop} {st : Store} {F : List Pl} {R : List Nat} {S : List Sy} {x y n s : Nat} {p f : PV}
theorem mixedA_spec {α : Type} {g : α → PV} {L : List α} {w : PV} (hg : ∀ a, DN.cl (g a) = true) (hw : asI w st = some (L.map g)) (hw2 : ∀ (X : EP) (Q : PV → Store → Prop) (j : Store), wpX X (qLen [w] (st ++ j)) Q = Q (.int L.length) (st ++ j)) (hs : SrcAt st s) (hz : L.length ≤ 1000) (q : ∀ (M : List α) st', M.Perm L → Dr s st st' → Q (.lst (M.map g)) st') : (wpX Xp) (_law_mixed [.ref s, w] st) Q := by
  refine wp_fn ?_
  have hlt := hs.lt
  have hq : ∀ (X : EP) (Q : PV → Store → Prop), wpX X (qLstR [w] st) Q = Q (.ref st.length) (st ++ [.lst (L.map g)]) := fun X Q => by
    simp only [qLstR, hw, wp_ok]
  simp [hq, hw2, rgN hz]
  refine wps_forRo (fun i σ st' => ∃ (left found : List α) (x : Store), σ = [some (.ref s), some w, none, some (.ref st.length), some (.ref (st.length + 1))] ∧ st' = x ++ [.lst (left.map g), .lst (found.map g)] ∧ Dr s st x ∧ (found ++ left).Perm L ∧ (left.length : Int) + i = L.length ∧ 0 ≤ i) ?_ ?_ ⟨L, [], st, rfl, rfl, .refl, by simp, by omega, by omega⟩
  · rintro I hI i σ st' ⟨left, found, x, rfl, rfl, hd, hp, hl, hi0⟩ hi
    have hxl := hd.len
    simp
    refine ⟨isL_ref (l := found.map g) (by rw [app_get hxl]; rfl), isL_ref (l := left.map g) (by rw [app_get0 hxl]; rfl), ?_⟩
    rw [wp_lenR (l := left.map g) (by rw [app_get0 hxl]; rfl)]
    simp
    refine takeN (hd.src hs).app (by omega) (by omega) fun j st2 hj hd2 => ?_
    obtain ⟨x2, rfl, hd3⟩ := Dr.app (by omega) hd2
    have hxl2 : x2.length = st.length := by rw [hd3.len, hxl]
    have hu : left[j]? = some left[j] := List.getElem?_eq_getElem hj
    refine wp_pop1 (l := left.map g) (y := g left[j]) (by rw [app_get0 hxl2]; rfl) (by rw [List.getElem?_map, hu]; rfl) (by omega) ?_
    rw [app_set0 hxl2]
    refine wp_append (l := found.map g) (by rw [app_get hxl2]; rfl) ?_ ?_
    · have := hp.length_eq
      simp only [List.length_append] at this
      simp only [List.length_map, SZ_lit]
      omega
    · rw [app_set hxl2]
      simp [wipeA]
      refine hI _ _ _ ⟨left.eraseIdx j, found ++ [left[j]], x2, rfl, by rw [erase_map]; simp, hd.trans hd3, ?_, by rw [List.length_eraseIdx_of_lt hj]; omega, by omega⟩
      have h1 : (left[j] :: left.eraseIdx j).Perm left := erase_perm hj
      rw [List.append_assoc]
      exact (List.Perm.append_left found h1).trans hp
  · rintro i σ st' ⟨left, found, x, rfl, rfl, hd, hp, hl, hi0⟩ hi
    have : left = [] := List.length_eq_zero_iff.mp (by omega)
    subst this
    simp [wipeA]
    exact Gc.lst (s := s) (x := x) (junk := [.lst [], .lst (found.map g)]) (n := st.length + 1) (l := found.map g) (cls_map hg) hd rfl (by omega) (by rw [List.getElem?_append_right (by rw [hd.len]; omega), hd.len]; simp) (q found x (by simpa using hp) hd)
theorem mixedG_spec {α : Type} {g : α → PV} {L : List α} {w : PV} (hg : ∀ a, DN.cl (g a) = true) (hw : w = .lst (L.map g)) (hs : SrcAt st s) (hz : L.length ≤ 1000) (q : ∀ (M : List α) st', M.Perm L → Dr s st st' → Q (.lst (M.map g)) st') : (wpX Xp) (_law_mixed [.ref s, w] st) Q := by
  subst hw
  exact mixedA_spec hg rfl (fun X Q j => by simp) hs hz q
theorem mixedR_spec {α : Type} {g : α → PV} {L : List α} {k : Nat} (hg : ∀ a, DN.cl (g a) = true) (hk : st[k]? = some (.lst (L.map g))) (hs : SrcAt st s) (hz : L.length ≤ 1000) (q : ∀ (M : List α) st', M.Perm L → Dr s st st' → Q (.lst (M.map g)) st') : (wpX Xp) (_law_mixed [.ref s, .ref k] st) Q := by
  refine mixedA_spec hg (by simp only [asI, asL, hk]) (fun X Q j => ?_) hs hz q
  rw [wp_lenR (l := L.map g) (by rw [List.getElem?_append_left (List.getElem?_eq_some_iff.mp hk).1]; exact hk)]
  simp
/-- all standings but apart -/
def anS (R : List Nat) (x y : Nat) : List Sd := (List.range (rm R y)).map .inn ++ (List.range (rm R x)).map .aro
theorem allS_eq : allS R x y = .ap :: anS R x y := rfl
theorem anS_sub : (anS R x y).Sublist (allS R x y) := List.sublist_cons_self _ _
theorem cut_allS : cut ((allS R x y).map sv) (some 1) none = (anS R x y).map sv := by
  rw [allS_eq, List.map_cons, cut_tail]
theorem sv_cl {z : Sd} : DN.cl (sv z) = true := cl_sv
theorem wp_pickM {c : DB} {g : DE} {σ : AE} {F : PV → Store → Prop} {lo : Nat} (G : Store → Prop) (hc : (wpX Xp) (c σ st) fun _ st' => G st') (hg : ∀ st', G st' → (wpX Xp) (g σ st') fun p st2 => ∃ m : Nat, p = .int m ∧ lo ≤ m ∧ m ≤ 24 ∧ G st2)
    (hl : lo ≤ 24) (h : ∀ (m : Nat) st', G st' → lo ≤ m → m ≤ 24 → F (.int m) st') : (wpX Xp) (dIf c (dC (.int 24)) g σ st) F := by
  rw [wp_dIf]
  refine wp_mono hc fun b st' q => ?_
  simp only [wp_c]
  refine ⟨fun _ => h 24 _ q hl (by omega), fun _ => wp_mono (hg _ q) fun p st2 z => ?_⟩
  obtain ⟨m, rfl, h1, h2, h3⟩ := z
  exact h m _ h3 h1 h2
end
end Lib
set_option Elab.async false
set_option linter.all false
set_option maxRecDepth 100000
set_option maxHeartbeats 2000000
/-! DnWp6: walks over a list of the store. -/
namespace DN
open PySem PySem.Spec PyProof.Rows L2
variable {Xp : EP}
section
variable {Q : PV → Store → Prop} {QI : Src → Store → Prop} {st : Store} {σ : AE} {N : AE → Store → Prop} {R : PV → Store → Prop} {B C : AE → Store → Prop} {b : DS} {w : List Nat} {n : Nat}
open Classical in
theorem wp_srcR {l : List PV} (h : st[n]? = some (.lst l)) : (wpX Xp) (srcOf (.ref n) st) QI = QI (l, fun st => decide (st[n]? = some (.lst l))) st := by
  simp only [srcOf, h, wp_ok]
theorem wps_forLS {t : DT} {okS : Store → Bool} (I : List PV → AE → Store → Prop) (ho : ∀ l σ st, I l σ st → okS st = true) : ∀ (l : List PV) (σ : AE) (st : Store), I l σ st →
    (∀ p r σ st, I (p :: r) σ st → (wpX Xp) (t p σ st) fun σ1 st1 => (wpsX Xp) (b σ1 st1) (fun σ2 st2 => I r (wipeA σ2 w) st2) R (fun σ2 st2 => N (wipeA σ2 w) st2) (fun σ2 st2 => I r (wipeA σ2 w) st2)) → (∀ σ st, I [] σ st → N (wipeA σ w) st) →
    (wpsX Xp) (forL t b w okS l σ st) N R B C
  | [], σ, st, h, _, hf => by
    unfold forL
    rw [if_pos (ho _ _ _ h)]
    exact wps_nx.mpr (hf σ st h)
  | p :: r, σ, st, h, hs, hf => by
    unfold forL
    rw [if_pos (ho _ _ _ h)]
    have h1 := hs p r σ st h
    cases q : t p σ st with
    | ok σ1 st1 =>
      rw [q] at h1
      simp only [wp_ok] at h1
      simp only [Res.bind]
      cases q2 : b σ1 st1 with
      | ok r' st2 =>
        rw [q2] at h1
        obtain ⟨fl, σ2⟩ := r'
        cases fl with
        | nx => have h2 := wps_nx.mp h1; exact wps_forLS I ho r _ _ h2 hs hf
        | ct => have h2 := wps_ct.mp h1; exact wps_forLS I ho r _ _ h2 hs hf
        | bk => have h2 := wps_bk.mp h1; exact wps_nx.mpr h2
        | rt v => have h2 := wps_rt.mp h1; exact wps_rt.mpr h2
      | exc _ _ _ => rw [q2, wps_exc] at h1; exact wps_exc.mpr h1
      | fail => rw [q2] at h1; exact (nwsF h1).elim
    | exc _ _ _ => rw [q, wp_exc] at h1; exact wps_exc.mpr h1
    | fail => rw [q] at h1; exact (nwF h1).elim
open Classical in
/-- a walk over a list of the store, which is not changed meanwhile -/
theorem wps_forRM {α : Type} {g : α → PV} {t : DT} {l0 : List PV} (P : List α → AE → Store → Prop) (l : List α) (hk : ∀ r σ st, P r σ st → st[n]? = some (.lst l0)) (hs : ∀ I : List α → AE → Store → Prop, (∀ i σ st, P i σ st → I i σ st) → ∀ p r σ st, P (p :: r) σ st → (wpX Xp) (t (g p) σ st) fun σ1 st1 => (wpsX Xp) (b σ1 st1) (fun σ2 st2 => I r (wipeA σ2 w) st2) R (fun σ2 st2 => N (wipeA σ2 w) st2) (fun σ2 st2 => I r (wipeA σ2 w) st2))
    (hf : ∀ σ st, P [] σ st → N (wipeA σ w) st) (h : P l σ st) : (wpsX Xp) (forL t b w (fun st => decide (st[n]? = some (.lst l0))) (l.map g) σ st) N R B C := by
  refine wps_forLS (fun m σ st => ∃ r, m = r.map g ∧ P r σ st) ?_ _ σ st ⟨l, rfl, h⟩ ?_ ?_
  · rintro _ σ st ⟨r, _, h⟩
    exact decide_eq_true (hk r σ st h)
  · rintro p m σ st ⟨r, e, h⟩
    cases r with
    | nil => cases e
    | cons a r =>
      cases e
      refine wp_mono (hs P (fun _ _ _ h => h) a r σ st h) fun σ1 st1 h => ?_
      exact wps_mono h (fun σ st h => ⟨_, rfl, h⟩) (fun _ _ h => h) (fun _ _ h => h) (fun σ st h => ⟨_, rfl, h⟩)
  · rintro σ st ⟨r, e, h⟩
    cases r with
    | nil => exact hf σ st h
    | cons a r => cases e
/-- a comprehension over it; the store's other things may change -/
theorem wp_lcIS {t : DT} {c : DB} {e : DE} {okS : Store → Bool} {QL : List PV → Store → Prop} (I : List PV → List PV → Store → Prop) (ho : ∀ a l st, I a l st → okS st = true) : ∀ (l : List PV) (st : Store), I [] l st →
    (∀ acc p r st, I acc (p :: r) st → wpX EF (t p σ st) fun σ1 st1 => wpX EF (c σ1 st1) fun b st2 => cnd b (wpX EF (e σ1 st2) fun v st3 => I (acc ++ [v]) r st3) (I acc r st2)) → (∀ acc st, I acc [] st → QL acc st) → (wpX Xp) (lcI t c e okS σ l st) QL := by
  have key : ∀ (l : List PV) (st : Store) (acc : List PV), I acc l st → (∀ acc p r st, I acc (p :: r) st → wpX EF (t p σ st) fun σ1 st1 => wpX EF (c σ1 st1) fun b st2 => cnd b (wpX EF (e σ1 st2) fun v st3 => I (acc ++ [v]) r st3) (I acc r st2)) →
      (wpX Xp) (lcI t c e okS σ l st) fun vs st => I (acc ++ vs) [] st := by
    intro l
    induction l with
    | nil =>
      intro st acc h _
      unfold lcI
      rw [if_pos (ho _ _ _ h)]
      simpa using h
    | cons p r ih =>
      intro st acc h hs
      unfold lcI
      rw [if_pos (ho _ _ _ h)]
      simp only [wp_bind, wp_noX]
      refine wp_mono (hs acc p r st h) fun σ1 st1 h => wp_mono h fun b st2 h => ?_
      cases b with
      | true =>
        simp only [cnd_true, if_true, wp_bind, wp_noX] at h ⊢
        refine wp_mono h fun v st3 h => wp_mono (ih st3 _ h hs) fun vs st4 h => ?_
        simpa using h
      | false =>
        simp only [cnd_false, Bool.false_eq_true, if_false] at h ⊢
        exact ih st2 acc h hs
  intro l st h hs hf
  refine wp_mono (key l st [] h hs) fun vs st h => hf vs st (by simpa using h)
open Classical in
theorem wp_lcRM {α : Type} {g : α → PV} {t : DT} {c : DB} {e : DE} {l0 : List PV} {QL : List PV → Store → Prop} (P : List α → List PV → Store → Prop) (l : List α) (st : Store) (hk : ∀ r a st, P r a st → st[n]? = some (.lst l0))
    (hs : ∀ I : List α → List PV → Store → Prop, (∀ i σ st, P i σ st → I i σ st) → ∀ p r acc st, P (p :: r) acc st → wpX EF (t (g p) σ st) fun σ1 st1 => wpX EF (c σ1 st1) fun b st2 => cnd b (wpX EF (e σ1 st2) fun v st3 => I r (acc ++ [v]) st3) (I r acc st2))
    (hf : ∀ acc st, P [] acc st → QL acc st) (h : P l [] st) : (wpX Xp) (lcI t c e (fun st => decide (st[n]? = some (.lst l0))) σ (l.map g) st) QL := by
  refine wp_lcIS (fun acc m st => ∃ r, m = r.map g ∧ P r acc st) ?_ _ st ⟨l, rfl, h⟩ ?_ ?_
  · rintro _ _ st ⟨r, _, h⟩
    exact decide_eq_true (hk _ _ _ h)
  · rintro acc p m st ⟨r, e, h⟩
    cases r with
    | nil => cases e
    | cons a r =>
      cases e
      refine wp_mono (hs P (fun _ _ _ h => h) a r acc st h) fun σ1 st1 h => wp_mono h fun b st2 h => ?_
      cases b with
      | true =>
        simp only [cnd_true] at h ⊢
        exact wp_mono h fun v st3 h => ⟨_, rfl, h⟩
      | false =>
        simp only [cnd_false] at h ⊢
        exact ⟨_, rfl, h⟩
  · rintro acc st ⟨r, e, h⟩
    cases r with
    | nil => exact hf acc st h
    | cons a r => cases e
end
end DN
set_option Elab.async false
set_option linter.all false
set_option maxRecDepth 100000
set_option maxHeartbeats 2000000
/-! K05M: the law is true. -/
namespace K05
open PySem PySem.Spec PyProof.Rows L2 DN Lib
variable {Xp : EP}
section
variable {Q : PV → Store → Prop} {st : Store} {R : List Nat} {S : List Sy} {x y n s : Nat} {p f : PV} {t : Nat → Nat → List Sd} {L : List Nat}
theorem book_spec {m : Nat} (hs : SrcAt st s) (h2 : 2 ≤ m) (hm : m ≤ 24) (q : ∀ (R : List Nat) (S : List Sy) st', R.length = m → okR R → (∀ z ∈ S, okSy R z) → S.length ≤ 24 → Dr s st st' → Q (.tup [rv R, .lst (S.map syv)]) st') : (wpX Xp) (d__law_book [.ref s, .int m] st) Q := by
  refine wp_fn ?_
  simp [-wp_dIf]
  refine rooms_spec hs (by omega) fun R st1 hRl hR4 hd => ?_
  have hR : okR R := ⟨by omega, hR4⟩
  have hlt := hs.lt
  have hl1 := hd.len
  refine takeN (top := 2) (hd.src hs).app (by omega) (by omega) fun a st2 ha hd2 => ?_
  obtain ⟨x2, rfl, hd2'⟩ := Dr.app (by omega) hd2
  have hd := hd.trans hd2'
  have hl2 := hd.len
  simp [-wp_dIf]
  generalize hβ : decide (a = 0) = β
  refine takeN (top := 12) (hd.src hs).app (by omega) (by omega) fun k st3 hk hd3 => ?_
  obtain ⟨x3, rfl, hd3'⟩ := Dr.app (by omega) hd3
  have hd3 := hd.trans hd3'
  have hl3 := hd3.len
  try simp [-wp_dIf]
  refine ⟨rgN (by omega), ?_⟩
  refine wps_forRo (fun i σ st' => ∃ (j : Nat) (S : List Sy) (x : Store), i = (j : Int) ∧ S.length ≤ j ∧ j ≤ k ∧ σ = [some (.ref s), some (.int m), none, some (rv R), some (.ref st1.length), some (.bl β), none, none, none] ∧ st' = x ++ [.lst (S.map syv)] ∧ Dr s st x ∧ ∀ z ∈ S, okSy R z) ?_ ?_ ⟨0, [], x3, rfl, by simp, by omega, rfl, by simp, hd3, by simp⟩
  · rintro I hI i σ st' ⟨j, S, x5, rfl, hSj, hjk, rfl, rfl, hd5, hS⟩ hi
    simp [-wp_dIf]
    have hl5 := hd5.len
    refine takeN (hd5.src hs).app (by omega) (by omega) fun x st6 hx hd6 => ?_
    obtain ⟨x6, rfl, hd6'⟩ := Dr.app (by omega) hd6
    have hd6 := hd5.trans hd6'
    have hl6 := hd6.len
    try simp [-wp_dIf]
    refine other_spec (hd6.src hs).app h2 (by omega) hx fun y st7 hy hxy hd7 => ?_
    obtain ⟨x7, rfl, hd7'⟩ := Dr.app (by omega) hd7
    have hd7 := hd6.trans hd7'
    have hl7 := hd7.len
    try simp [-wp_dIf]
    have fin : ∀ (L : List Sd) x8, L.Sublist (allS R x y) → Dr s st x8 → ∃ (l : List PV), (x8 ++ [SO.lst (S.map syv)])[st1.length]? = some (.lst (S.map syv)) ∧ I (↑j + 1) [some (.ref s), some (.int m), none, some (rv R), some (.ref st1.length), some (.bl β), none, none, none] ((x8 ++ [SO.lst (S.map syv)]).set st1.length (.lst (S.map syv ++ [.tup [.int x, .int y, .tup (L.map sv)]]))) := fun L x8 hL hd8 => by
      have hl8 := hd8.len
      have e8 : st1.length = x8.length := by omega
      refine ⟨[], by rw [e8]; simp, ?_⟩
      rw [e8, app_set0 rfl, ← e8]
      refine hI _ _ _ ⟨j + 1, S ++ [⟨x, y, L⟩], x8, by simp, by simp; omega, by omega, rfl, by simp [syv], hd8, fun z hz => ?_⟩
      rcases List.mem_append.mp hz with h | h
      · exact hS z h
      · simp at h; subst h; exact ⟨by simp only; omega, by simp only; omega, hxy, hL⟩
    rw [wp_dIf]
    simp only [wp_bTruth, wp_var]
    refine ⟨_, rfl, ?_⟩
    simp only [wp_truthB]
    cases β with
    | true =>
      simp
      refine every_spec hR (by omega) (by omega) ?_
      simp
      rw [cut_allS]
      try simp
      obtain ⟨_, f1, f2⟩ := fin (anS R x y) x7 anS_sub hd7
      refine ⟨isL_ref (l := S.map syv) f1, ?_⟩
      refine wp_append f1 (by simp only [SZ_lit]; simp; omega) ?_
      simp [wipeA]
      exact f2
    | false =>
      simp
      refine lot_spec (hd7.src hs).app hR (by omega) (by omega) fun L st8 hL hd8 => ?_
      obtain ⟨x8, rfl, hd8'⟩ := Dr.app (by omega) hd8
      have hd8 := hd7.trans hd8'
      obtain ⟨_, f1, f2⟩ := fin L x8 hL hd8
      try simp
      refine ⟨isL_ref (l := S.map syv) f1, ?_⟩
      refine wp_append f1 (by simp only [SZ_lit]; simp; omega) ?_
      simp [wipeA]
      exact f2
  · rintro i σ st' ⟨j, S, x5, rfl, hSj, hjk, rfl, rfl, hd5, hS⟩ hi
    have hl5 := hd5.len
    simp [wipeA]
    refine gc_tupL (s := s) (x := x5) (junk := [.lst (S.map syv)]) (l := S.map syv) (dab_cl (dab_rv (n := 5))) cls_syvs hd5 rfl (by omega) (by rw [show st1.length = x5.length by omega]; simp) ?_
    exact q R S x5 hRl hR hS (by omega) hd5
theorem chain_spec {m : Nat} (hs : SrcAt st s) (h2 : 2 ≤ m) (hm : m ≤ 24) (q : ∀ (R : List Nat) (S : List Sy) st', R.length = m → okR R → (∀ z ∈ S, okSy R z) → S.length ≤ 24 → Dr s st st' → Q (.tup [rv R, .lst (S.map syv)]) st') : (wpX Xp) (d__law_chain [.ref s, .int m] st) Q := by
  refine wp_fn ?_
  have hlt := hs.lt
  simp
  refine ⟨by omega, ?_⟩
  rw [rgP_nat]
  refine mixed_spec (L := List.range m) rfl hs (by simp; omega) fun O st1 hO hd => ?_
  have hl1 := hd.len
  have hOl : O.length = m := by simpa using hO.length_eq
  have hOm : ∀ a ∈ O, a < m := fun a ha => by simpa using hO.mem_iff.mp ha
  have hOn : O.Nodup := hO.nodup_iff.mpr List.nodup_range
  try simp
  refine rooms_spec (hd.src hs).app (by omega) fun R st2 hRl hR4 hd2 => ?_
  have hR : okR R := ⟨by omega, hR4⟩
  obtain ⟨x2, rfl, hd2'⟩ := Dr.app (by omega) hd2
  have hd2 := hd.trans hd2'
  have hl2 := hd2.len
  try simp
  refine ⟨by rw [show (m : Int) - 1 = ((m - 1 : Nat) : Int) by omega]; exact rgN (by omega), ?_⟩
  refine wps_forRo (fun i σ st' => ∃ (j : Nat) (S : List Sy), i = (j : Int) ∧ S.length = j ∧ j ≤ m - 1 ∧ σ = [some (.ref s), some (.int m), none, some (.lst (O.map nv)), some (.ref st1.length), some (rv R), none, none] ∧ st' = x2 ++ [.lst (S.map syv)] ∧ ∀ z ∈ S, okSy R z) ?_ ?_ ⟨0, [], rfl, rfl, by omega, rfl, by simp, by simp⟩
  · rintro I hI i σ st' ⟨j, S, rfl, hSj, hjk, rfl, rfl, hS⟩ hi
    have hj : j + 1 < m := by omega
    have e1 : atI (O.map nv) (j : Int) = some (nv O[j]) := atI_map (by omega)
    have e2 : atI (O.map nv) ((j : Int) + 1) = some (nv O[j + 1]) := by
      rw [show (j : Int) + 1 = ((j + 1 : Nat) : Int) by omega]
      exact atI_map (by omega)
    simp [e1, e2, nv]
    have ha := hOm O[j] (List.getElem_mem _)
    have hb := hOm O[j + 1] (List.getElem_mem _)
    have hab : O[j] ≠ O[j + 1] := fun e => by
      have := (List.getElem_inj hOn).mp e
      omega
    generalize O[j] = a at ha hab
    generalize O[j + 1] = b at hb hab
    have e8 : st1.length = x2.length := by omega
    refine ⟨isL_ref (l := S.map syv) (by rw [e8]; simp), ?_⟩
    refine every_spec hR (by omega) (by omega) ?_
    simp
    rw [cut_allS]
    refine wp_append (l := S.map syv) (by rw [e8]; simp) (by simp only [SZ_lit]; simp; omega) ?_
    rw [e8, app_set0 rfl, ← e8]
    simp [wipeA]
    refine hI _ _ _ ⟨j + 1, S ++ [⟨a, b, anS R a b⟩], by simp, by simp; omega, by omega, rfl, by simp [syv], fun z hz => ?_⟩
    rcases List.mem_append.mp hz with h | h
    · exact hS z h
    · simp at h; subst h; exact ⟨by simp only; omega, by simp only; omega, hab, anS_sub⟩
  · rintro i σ st' ⟨j, S, rfl, hSj, hjk, rfl, rfl, hS⟩ hi
    simp [wipeA]
    have e8 : st1.length = x2.length := by omega
    refine mixedR_spec (L := S) (g := syv) (fun _ => cl_syv) (by rw [e8]; simp) (hd2.src hs).app (by omega) fun S' st3 hS' hd3 => ?_
    obtain ⟨x3, rfl, hd3'⟩ := Dr.app (by have := hs.lt; omega) hd3
    have hd3 := hd2.trans hd3'
    try simp
    refine Gc.dr (s := s) (x := x3) (junk := [.lst (S.map syv)]) (by simp [rv, cls_syvs, cls_nvs]) hd3 rfl ?_
    exact q R S' x3 hRl hR (fun z hz => hS z (hS'.mem_iff.mp hz)) (by rw [hS'.length_eq]; omega) hd3
/-- the links of a book -/
def lns (S : List Sy) : List (Nat × Nat) := (S.filter fun z => !decide (Sd.ap ∈ z.lot)).map fun z => (z.x, z.y)
theorem mem_lns {a b : Nat} : (a, b) ∈ lns S ↔ ∃ z ∈ S, .ap ∉ z.lot ∧ z.x = a ∧ z.y = b := by
  unfold lns
  simp only [List.mem_map, List.mem_filter, Bool.not_eq_true', decide_eq_false_iff_not]
  constructor
  · rintro ⟨z, ⟨h1, h2⟩, e⟩
    cases e
    exact ⟨z, h1, h2, rfl, rfl⟩
  · rintro ⟨z, h1, h2, h3, h4⟩
    exact ⟨z, ⟨h1, h2⟩, by rw [h3, h4]⟩
theorem lk_tbl {a b : Nat} : lk (Lib.tbl R S) a b = true ↔ (a, b) ∈ lns S ∨ (b, a) ∈ lns S := by
  rw [mem_lns, mem_lns]
  unfold lk Lib.tbl
  simp only [List.mem_filter, allS, List.mem_cons, true_or, true_and, List.all_eq_true, Bool.and_eq_true, Bool.or_eq_true, Bool.not_eq_true', decide_eq_true_eq, turn, decide_eq_false_iff_not, Bool.and_eq_false_iff]
  constructor
  · intro h
    simp only [Classical.not_forall] at h
    obtain ⟨z, hz, h⟩ := h
    grind
  · rintro (⟨z, hz, h1, h2, h3⟩ | ⟨z, hz, h1, h2, h3⟩) h
    · have := h z hz; grind
    · have := h z hz; grind
theorem lns_ok (hS : ∀ z ∈ S, okSy R z) : ∀ l ∈ lns S, l.1 ≠ l.2 ∧ lk (Lib.tbl R S) l.1 l.2 = true := by
  rintro ⟨a, b⟩ h
  obtain ⟨z, hz, h1, h2, h3⟩ := mem_lns.mp h
  refine ⟨?_, lk_tbl.mpr (.inl h)⟩
  have := (hS z hz).2.2.1
  rw [← h2, ← h3]; exact this
theorem okL_range {m : Nat} : okL m (List.range m) := ⟨List.pairwise_lt_range, fun a ha => by simpa using ha⟩
theorem range_map {m : Nat} : rgP 0 (m : Int) = (List.range m).map nv := rgP_nat m
theorem tv_eq {L : List Nat} : PV.tup (L.map nv) = tv L := rfl
theorem lots_right_spec {m : Nat} {R' : List Nat} {S' : List Sy} (hs : SrcAt st s) (hB : okB R S) (hm : R.length = m) (h2 : 2 ≤ m) (hB' : okB R' S') (h2' : 2 ≤ R'.length) (q : ∀ st', Dr s st st' → Q (.bl true) st') : (wpX Xp) (d__law_lots_right [.ref s, rv R, .lst (S.map syv), bv R' S'] st) Q := by
  subst hm
  have h24 := hB.1.1
  have hSl := hB.2.1
  refine wp_fn ?_
  have hlt := hs.lt
  simp
  rw [show qLen [rv R] = qLen [.tup (R.map nv)] from rfl]
  simp
  refine wp_lcF (fun z => !decide (Sd.ap ∈ z.lot)) (fun z => pp (z.x, z.y)) _ (fun z hz => ?_) ?_
  · simp [wipeA, syv]
    rw [show PV.tup [.str ("apart" : Str), .int 0] = sv .ap from rfl, wp_notInSvT]
    simp [pp]
  have e1 : (S.filter fun z => !decide (Sd.ap ∈ z.lot)).map (fun z => pp (z.x, z.y)) = (lns S).map pp := by unfold lns; rw [List.map_map]; rfl
  rw [e1]
  have hll : (lns S).length ≤ 400 := by unfold lns; rw [List.length_map]; exact Nat.le_trans (List.length_filter_le _ _) hSl
  simp
  refine ⟨by omega, rgN (by omega), ?_⟩
  rw [range_map]
  refine wp_lcM (fun (r : List Nat) acc st' => ∃ A : List Nat, acc = A.map nv ∧ (A ++ r).Sublist (List.range R.length) ∧ Dr s st st') _ _ ?_ ?_ ⟨[], rfl, by simp, .refl⟩
  · rintro I hI a r acc st' ⟨A, rfl, hA, hd⟩
    simp [wipeA]
    refine takeN (top := 4) (hd.src hs) (by omega) (by omega) fun i st2 hi hd2 => ?_
    simp
    by_cases h0 : 0 < i
    · rw [cnd_pos (by simpa using h0)]
      exact hI _ _ _ ⟨A ++ [a], by simp [nv], by simpa using hA, hd.trans hd2⟩
    · rw [cnd_neg (by simpa using h0)]
      refine hI _ _ _ ⟨A, rfl, ?_, hd.trans hd2⟩
      have : (A ++ r).Sublist (A ++ a :: r) := by simp
      exact this.trans hA
  rintro acc st1 ⟨A, rfl, hA, hd⟩
  rw [List.append_nil] at hA
  have hAo : okL R.length A := ⟨List.pairwise_lt_range.sublist hA, fun a ha => by simpa using hA.mem ha⟩
  have hAl := hAo.len
  have hl1 := hd.len
  simp
  refine ⟨by omega, by omega, ?_⟩
  have em : (if (4 : Int) < R.length then (4 : Int) else R.length) = ((if 4 < R.length then 4 else R.length : Nat) : Int) := by split <;> split <;> omega
  rw [em]
  generalize hc : (if 4 < R.length then 4 else R.length) = c
  have hc4 : c ≤ R.length := by rw [← hc]; split <;> omega
  refine ⟨rgN (by omega), ?_⟩
  rw [range_map]
  refine wp_lcF (fun _ => true) (fun a => tv [a]) _ (fun a ha => ?_) ?_
  · simp [wipeA, tv]
  rw [List.filter_eq_self.mpr (fun _ _ => rfl)]
  simp
  refine ⟨by omega, by omega, ?_⟩
  have ec : cut (A.map nv) none (some (4 : Int)) = (A.take 4).map nv := by
    rw [show (4 : Int) = ((4 : Nat) : Int) from rfl, cut_take, List.map_take]
  rw [ec]
  let σ0 : Option PV → AE := fun o => [some (.ref s), some (rv R), some (.lst (S.map syv)), some (bv R' S'), some (.lst ((lns S).map pp)), some (.tup (A.map nv)), some (.ref st1.length), none, none, some (.tup [rv R, .tup (S.map syv)]), some (.int R.length), o, none, none]
  refine wps_forM (g := nv) (fun (r : List Nat) σ st' => ∃ Ls : List (List Nat), σ = σ0 none ∧ st' = st1 ++ [.lst (Ls.map tv)] ∧ (∀ L ∈ Ls, okL R.length L) ∧ Ls.length + r.length ≤ 100) _ ?_ ?_ ⟨[List.range R.length, [], A] ++ (List.range c).map fun a => [a], rfl, ?_, ?_, ?_⟩
  · rintro I hI a r σ st' ⟨Ls, rfl, rfl, hLs, hl⟩
    simp [σ0]
    refine ⟨isL_ref (l := Ls.map tv) (by simp), ?_⟩
    refine wp_lcF (fun b => !decide (b = a)) nv _ (fun b _ => ?_) ?_
    · simp [wipeA, nv]
      omega
    · have := List.length_filter_le (fun b => !decide (b = a)) A
      simp only [List.length_cons] at hl
      simp
      refine ⟨by omega, ?_⟩
      refine wp_append (l := Ls.map tv) (by simp) (by simp only [SZ_lit]; simp; omega) ?_
      rw [app_set0 rfl]
      simp [wipeA]
      refine hI _ _ _ ⟨Ls ++ [A.filter fun b => !decide (b = a)], rfl, by simp [tv], fun L hL => ?_, by simp; omega⟩
      rcases List.mem_append.mp hL with h | h
      · exact hLs L h
      · simp at h
        subst h
        exact ⟨asc_filter hAo.1, fun b hb => hAo.2 b (List.mem_filter.mp hb).1⟩
  · rintro σ st' ⟨Ls, rfl, rfl, hLs, hl⟩
    simp [wipeA, σ0]
    rw [wp_srcR (l := Ls.map tv) (by simp)]
    refine wps_forRM (g := tv) (l0 := Ls.map tv) (fun (r : List (List Nat)) σ st' => σ = σ0 none ∧ st' = st1 ++ [.lst (Ls.map tv)] ∧ ∀ L ∈ r, okL R.length L) _ ?_ ?_ ?_ ⟨rfl, rfl, hLs⟩
    · rintro r σ st' ⟨rfl, rfl, _⟩
      simp
    · rintro I hI L r σ st' ⟨rfl, rfl, hr⟩
      have hL := hr L (by simp)
      have hLl := hL.len
      have hpl := flat_len fun P (h : P ∈ pi (Lib.tbl R S) L) => pi_pos h
      rw [(pi_perm (t := Lib.tbl R S)).length_eq] at hpl
      have one : ∀ {X : EP} {Q : PV → Store → Prop} {st : Store}, Q (.tup ((pi (Lib.tbl R S) L).map tv)) st → wpX X (Lib.parts [bv R S, tv L] st) Q := fun h => parts_sp hB (dab_tv (by omega)) (fun L' e _ => by rw [← tv_inj e]; exact h) (fun h => absurd ⟨L, rfl, hL⟩ h)
      simp [σ0]
      refine closed_spec (t := Lib.tbl R S) tbl_sym hL.1 (by omega) (lns_ok hB.2.2) (fun a _ b _ _ h => lk_tbl.mp h) ?_
      try simp
      refine one ?_
      try simp
      refine is_told_spec (by omega) ?_
      try simp
      refine parts_sp hB' (by simp [dab]) (fun L' e h' => ?_) (fun h => absurd ⟨[0, 1], rfl, ⟨by simp, fun a ha => by simp at ha; omega⟩⟩ h)
      try simp
      refine one ?_
      try simp
      refine is_told_spec (by omega) ?_
      simp [wipeA]
      exact hI _ _ _ ⟨rfl, rfl, fun L h => hr L (by simp [h])⟩
    · rintro σ st' ⟨rfl, rfl, _⟩
      try simp [wipeA, σ0]
      exact Gc.dr (s := s) (x := st1) (junk := [.lst (Ls.map tv)]) (by simp) hd rfl (q st1 hd)
  · simp [tv, rv]
  · intro L hL
    rcases List.mem_append.mp hL with h | h
    · simp only [List.mem_cons, List.not_mem_nil, or_false] at h
      rcases h with rfl | rfl | rfl
      · exact okL_range
      · exact ⟨.nil, by simp⟩
      · exact hAo
    · obtain ⟨a, ha, rfl⟩ := List.mem_map.mp h
      exact ⟨by simp, fun b hb => by simp at hb ha; omega⟩
  · have := List.length_take_le 4 A
    simp; omega
theorem refused_spec (hB : okB R S) (hp : dab 20 p = true) (hn : ¬ IsLot R.length p) (q : Q (.bl true) st) : (wpX Xp) (d__law_refused [bv R S, p] st) Q := by
  refine wp_fn ?_
  simp
  refine parts_sp hB hp (fun L e h => absurd ⟨L, e, h⟩ hn) fun _ => ?_
  refine wps_hit (by decide +kernel) ?_
  simp [nE]
  rw [wp_isE (b := false) (by decide +kernel)]
  simp [noE]
  exact Gc.same (by simp) q
theorem lft_two1 {a b : Nat} (h : lk t a b = true) (hn : a ≠ b) : pi t [a, b] = [[a, b]] := by
  have hb : Rch t [a, b] a b := .one (by simp) h (Ne.symm hn)
  rw [pi_cons']
  have e1 : cmp t [a, b] a = [a, b] := by
    unfold cmp
    refine List.filter_eq_self.mpr fun y hy => ?_
    simp only [List.mem_cons, List.not_mem_nil, or_false] at hy
    rcases hy with rfl | rfl
    · simp; exact .refl
    · simpa using hb
  have e2 : lft t [a, b] a = [] := by
    unfold lft
    rw [e1]
    refine List.filter_eq_nil_iff.mpr fun y hy => ?_
    simp only [List.mem_cons, List.not_mem_nil, or_false] at hy
    rcases hy with rfl | rfl <;> simp
  rw [e1, e2, pi_nil]
theorem pi_one {a : Nat} : pi t [a] = [[a]] := by
  rw [pi_cons']
  have e1 : cmp t [a] a = [a] := by
    unfold cmp
    refine List.filter_eq_self.mpr fun y hy => ?_
    simp only [List.mem_cons, List.not_mem_nil, or_false] at hy
    subst hy; simp; exact .refl
  have e2 : lft t [a] a = [] := by
    unfold lft
    rw [e1]
    refine List.filter_eq_nil_iff.mpr fun y hy => ?_
    simpa using hy
  rw [e1, e2, pi_nil]
theorem pi_two1 {a b : Nat} (h : lk t a b = true) (hn : a ≠ b) : pi t [a, b] = [[a, b]] := lft_two1 h hn
theorem pi_two0 {a b : Nat} (h : lk t a b = false) (hn : a ≠ b) : pi t [a, b] = [[a], [b]] := by
  have hb : ∀ c, Rch t [a, b] a c → c = a := fun c hc => by
    induction hc with
    | refl => rfl
    | @step x y _ h2 h3 h4 ih =>
      subst ih
      simp only [List.mem_cons, List.not_mem_nil, or_false] at h2
      rcases h2 with rfl | rfl
      · rfl
      · rw [h] at h4; cases h4
  have e1 : cmp t [a, b] a = [a] := by
    unfold cmp
    rw [List.filter_cons, if_pos (by simp; exact .refl), List.filter_cons, if_neg (by simp; exact fun g => hn (hb b g).symm)]
    rfl
  have e2 : lft t [a, b] a = [b] := by
    unfold lft
    rw [e1, List.filter_cons, if_neg (by simp), List.filter_cons, if_pos (by simpa using Ne.symm hn)]
    rfl
  rw [pi_cons', e1, e2, pi_one]
end
theorem law_true (ns : List Int) (_ : ns.length ≤ 63) (_ : ∀ z ∈ ns, Builtin.Int.intBits z ≤ 1048576) : ∃ st, d_law [.scr (ns.map PV.int)] [] = .ok (.bl true) st := by
  have key : wpX EF (d_law [.scr (ns.map PV.int)] []) fun v _ => v = .bl true := by
    refine wp_fn ?_
    have hR2 : okR [1, 1] := ⟨by simp, by simp⟩
    have hB1 : okB [1, 1] [⟨0, 1, anS [1, 1] 0 1⟩] := ⟨hR2, by simp, by
      simp only [List.mem_cons, List.not_mem_nil, or_false]
      rintro z rfl; exact ⟨by decide, by decide, by decide, anS_sub⟩⟩
    have hB2 : okB [1, 1] [⟨0, 1, [.ap]⟩] := ⟨hR2, by simp, by
      simp only [List.mem_cons, List.not_mem_nil, or_false]
      rintro z rfl; exact ⟨by decide, by decide, by decide, by decide⟩⟩
    simp [-wp_dIf]
    refine every_spec (R := [1, 1]) (x := 0) (y := 1) hR2 (by simp) (by simp) ?_
    simp [-wp_dIf]
    refine ⟨sv .ap, rfl, ?_⟩
    rw [cut_allS]
    have b1 : PV.tup [PV.tup [PV.int 1, PV.int 1], PV.tup [PV.tup [PV.int 0, PV.int 1, PV.tup ((anS [1, 1] 0 1).map sv)]]] = bv [1, 1] [⟨0, 1, anS [1, 1] 0 1⟩] := rfl
    have b2 : PV.tup [PV.tup [PV.int 1, PV.int 1], PV.tup [PV.tup [PV.int 0, PV.int 1, PV.tup [sv .ap]]]] = bv [1, 1] [⟨0, 1, [.ap]⟩] := rfl
    have b3 : PV.tup [PV.int 0, PV.int 1] = tv [0, 1] := rfl
    rw [b1, b2, b3]
    have hL : okL 2 [0, 1] := ⟨by simp, fun a ha => by simp at ha; omega⟩
    refine parts_sp hB1 (dab_tv (by omega)) (fun L' e _ => ?_) (fun h => absurd ⟨[0, 1], rfl, hL⟩ h)
    rw [← tv_inj e, pi_two1 (by decide) (by decide)]
    try simp [-wp_dIf]
    refine is_told_spec (Ps := [[0, 1]]) (by simp) ?_
    try simp [-wp_dIf]
    refine parts_sp hB2 (dab_tv (by omega)) (fun L' e _ => ?_) (fun h => absurd ⟨[0, 1], rfl, hL⟩ h)
    rw [← tv_inj e, pi_two0 (by decide) (by decide)]
    try simp [-wp_dIf]
    refine is_told_spec (Ps := [[0], [1]]) (by simp) ?_
    try simp [-wp_dIf]
    obtain ⟨n, hn, hn8⟩ : ∃ n : Nat, (if 1 < (if (6 : Int) < ns.length then (6 : Int) else ns.length) then (if (6 : Int) < ns.length then (6 : Int) else ns.length) else 1) = (n : Int) ∧ n ≤ 8 := by
      by_cases h : 6 < ns.length
      · exact ⟨6, by rw [if_pos (show (6 : Int) < ns.length by omega)]; simp, by omega⟩
      · rw [if_neg (show ¬ (6 : Int) < ns.length by omega)]
        by_cases h2 : 1 < ns.length
        · exact ⟨ns.length, by rw [if_pos (by omega)], by omega⟩
        · exact ⟨1, by rw [if_neg (by omega)]; simp, by omega⟩
    rw [hn]
    refine ⟨rgN (by omega), ?_⟩
    generalize hA : PV.lst _ = A
    generalize hA2 : bv [1, 1] [⟨0, 1, [.ap]⟩] = A2
    refine wps_forRo (fun i σ st' => ∃ k : Nat, i = k ∧ k ≤ n ∧ σ = [some (.scr (ns.map PV.int)), some A, none, some (bv [1, 1] [⟨0, 1, anS [1, 1] 0 1⟩]), some A2, none, none, none, none, none]) ?_ ?_ ⟨0, rfl, by omega, rfl⟩
    · rintro I hI i σ st ⟨k, rfl, hkn, rfl⟩ hi
      simp [-wp_dIf]
      refine pool_spec (by omega) (by omega) fun a b ha hb => ?_
      have hs : SrcAt (st ++ [.lst [.int a, .int b]]) st.length := ⟨a, b, by simp, ha, hb⟩
      generalize st ++ [SO.lst [.int a, .int b]] = st1 at hs
      generalize st.length = s at hs
      try simp [-wp_dIf]
      refine wp_pickM (lo := 2) (fun st' => SrcAt st' s) ?_ (fun st' hs' => ?_) (by omega) (fun m st2 hs2 h2 hm => ?_)
      · simp
        refine takeN (top := 8) hs (by omega) (by omega) fun i st2 hi hd => ?_
        try simp
        exact hd.src hs
      · simp
        refine takeN (top := 8) hs' (by omega) (by omega) fun i st2 hi hd => ?_
        try simp
        exact ⟨2 + i, by simp, by omega, by omega, hd.src hs'⟩
      · try simp [-wp_dIf]
        refine wp_mono (Q := fun p st' => ∃ (R : List Nat) (S : List Sy), p = .tup [rv R, .lst (S.map syv)] ∧ R.length = m ∧ okR R ∧ (∀ z ∈ S, okSy R z) ∧ S.length ≤ 24 ∧ SrcAt st' s) ?_ ?_
        · simp
          refine takeN (top := 3) hs2 (by omega) (by omega) fun i st3 hi hd => ?_
          have hs3 := hd.src hs2
          simp
          refine ⟨fun _ => ?_, fun _ => ?_⟩
          · exact book_spec hs3 h2 hm fun R S st4 h1 h2 h3 h4 h5 => ⟨R, S, rfl, h1, h2, h3, h4, h5.src hs3⟩
          · exact chain_spec hs3 h2 hm fun R S st4 h1 h2 h3 h4 h5 => ⟨R, S, rfl, h1, h2, h3, h4, h5.src hs3⟩
        · rintro p st3 ⟨R, S, rfl, hRl, hR, hS, hSl, hs3⟩
          have hB : okB R S := ⟨hR, by omega, hS⟩
          try simp
          refine lots_right_spec hs3 hB hRl h2 hB1 (by simp) fun st4 hd4 => ?_
          have hs4 := hd4.src hs3
          try simp
          refine one_spec hs4 (by simp) (by simp) (by simp) fun v st5 hv hd5 => ?_
          try simp
          have hbad : dab 20 v = true ∧ ¬ IsLot R.length v := by
            have no : ∀ {p : PV} (P : List Nat → Prop), (∀ L, p = tv L → okL R.length L → False) → ¬ IsLot R.length p := fun _ h ⟨L, e, hL⟩ => h L e hL
            have two : ∀ {i j : Int}, (¬ (0 ≤ i ∧ i < j ∧ j < m)) → ¬ IsLot R.length (.tup [.int i, .int j]) := fun {i j} h ⟨L, e, hL⟩ => by
              cases L with
              | nil => cases e
              | cons a L => cases L with
                | nil => cases e
                | cons b L =>
                  simp only [tv, List.map_cons, nv, PV.tup.injEq, List.cons.injEq, PV.int.injEq] at e
                  obtain ⟨rfl, rfl, _⟩ := e
                  have h1 := (List.pairwise_cons.mp hL.1).1 b (by simp)
                  have h3 := hL.2 b (by simp)
                  omega
            have one : ∀ {i : Int}, (¬ (0 ≤ i ∧ i < m)) → ¬ IsLot R.length (.tup [.int i]) := fun {i} h ⟨L, e, hL⟩ => by
              cases L with
              | nil => cases e
              | cons a L =>
                simp only [tv, List.map_cons, nv, PV.tup.injEq, List.cons.injEq, PV.int.injEq] at e
                obtain ⟨rfl, _⟩ := e
                have h3 := hL.2 a (by simp)
                omega
            simp only [List.mem_cons, List.not_mem_nil, or_false] at hv
            rcases hv with rfl | rfl | rfl | rfl | rfl | rfl | rfl | rfl
            · exact ⟨by simp [dab], two (by omega)⟩
            · exact ⟨by simp [dab], two (by omega)⟩
            · exact ⟨by simp [dab], one (by omega)⟩
            · exact ⟨by simp [dab], one (by omega)⟩
            · exact ⟨by simp [dab], two (by omega)⟩
            · exact ⟨by simp [dab], fun ⟨L, e, _⟩ => by cases e⟩
            · exact ⟨by simp [dab], two (by omega)⟩
            · refine ⟨by simp [dab], fun ⟨L, e, _⟩ => ?_⟩
              cases L with
              | nil => cases e
              | cons a L => simp [tv, nv] at e
          refine refused_spec hB hbad.1 hbad.2 ?_
          simp [wipeA]
          exact hI _ _ _ ⟨k + 1, by simp, by omega, rfl⟩
    · rintro i σ st ⟨k, rfl, hkn, rfl⟩ hi
      try simp [wipeA]
      exact Gc.pure (junk := st) (by simp) (by simp) rfl
  obtain ⟨v, st, h1, h2⟩ := wp_ok_of key
  exact ⟨st, by rw [h1, h2]⟩
end K05
set_option Elab.async false
set_option linter.all false
set_option maxRecDepth 100000
set_option maxHeartbeats 0
/-! K05E: the law. Printed by gen.py. -/
namespace K05
open PySem PySem.Spec PyProof.Rows L2 DN
def dd__law_every : He.DefD := ⟨("_law_every", none), "_law_every", "_law_every", defArgs s__law_every, defBody s__law_every, defScope s__law_every, [], []⟩
def dd__law_pool : He.DefD := ⟨("_law_pool", none), "_law_pool", "_law_pool", defArgs s__law_pool, defBody s__law_pool, defScope s__law_pool, [], []⟩
def dd__law_is_told : He.DefD := ⟨("_law_is_told", none), "_law_is_told", "_law_is_told", defArgs s__law_is_told, defBody s__law_is_told, defScope s__law_is_told, [], []⟩
def dd__law_take : He.DefD := ⟨("_law_take", none), "_law_take", "_law_take", defArgs s__law_take, defBody s__law_take, defScope s__law_take, [], []⟩
def dd__law_one : He.DefD := ⟨("_law_one", none), "_law_one", "_law_one", defArgs s__law_one, defBody s__law_one, defScope s__law_one, [], []⟩
def dd__law_rooms : He.DefD := ⟨("_law_rooms", none), "_law_rooms", "_law_rooms", defArgs s__law_rooms, defBody s__law_rooms, defScope s__law_rooms, [], []⟩
def dd__law_other : He.DefD := ⟨("_law_other", none), "_law_other", "_law_other", defArgs s__law_other, defBody s__law_other, defScope s__law_other, [], []⟩
def dd__law_lot : He.DefD := ⟨("_law_lot", none), "_law_lot", "_law_lot", defArgs s__law_lot, defBody s__law_lot, defScope s__law_lot, [], []⟩
def dd__law_book : He.DefD := ⟨("_law_book", none), "_law_book", "_law_book", defArgs s__law_book, defBody s__law_book, defScope s__law_book, [], []⟩
def dd__law_mixed : He.DefD := ⟨("_law_mixed", none), "_law_mixed", "_law_mixed", defArgs s__law_mixed, defBody s__law_mixed, defScope s__law_mixed, [], []⟩
def dd__law_chain : He.DefD := ⟨("_law_chain", none), "_law_chain", "_law_chain", defArgs s__law_chain, defBody s__law_chain, defScope s__law_chain, [], []⟩
def dd__law_closed : He.DefD := ⟨("_law_closed", none), "_law_closed", "_law_closed", defArgs s__law_closed, defBody s__law_closed, defScope s__law_closed, [], []⟩
def dd_is_whole : He.DefD := ⟨("is_whole", none), "is_whole", "is_whole", defArgs s_is_whole, defBody s_is_whole, defScope s_is_whole, [], []⟩
def dd_made_rooms : He.DefD := ⟨("made_rooms", none), "made_rooms", "made_rooms", defArgs s_made_rooms, defBody s_made_rooms, defScope s_made_rooms, [], []⟩
def dd_all_standings : He.DefD := ⟨("all_standings", none), "all_standings", "all_standings", defArgs s_all_standings, defBody s_all_standings, defScope s_all_standings, [], []⟩
def dd_is_standing : He.DefD := ⟨("is_standing", none), "is_standing", "is_standing", defArgs s_is_standing, defBody s_is_standing, defScope s_is_standing, [], []⟩
def dd_is_lets : He.DefD := ⟨("is_lets", none), "is_lets", "is_lets", defArgs s_is_lets, defBody s_is_lets, defScope s_is_lets, [], []⟩
def dd_is_thing : He.DefD := ⟨("is_thing", none), "is_thing", "is_thing", defArgs s_is_thing, defBody s_is_thing, defScope s_is_thing, [], []⟩
def dd_says_right : He.DefD := ⟨("says_right", none), "says_right", "says_right", defArgs s_says_right, defBody s_says_right, defScope s_says_right, [], []⟩
def dd_first_wrong : He.DefD := ⟨("first_wrong", none), "first_wrong", "first_wrong", defArgs s_first_wrong, defBody s_first_wrong, defScope s_first_wrong, [], []⟩
def dd_is_pair : He.DefD := ⟨("is_pair", none), "is_pair", "is_pair", defArgs s_is_pair, defBody s_is_pair, defScope s_is_pair, [], []⟩
def dd_made_book : He.DefD := ⟨("made_book", none), "made_book", "made_book", defArgs s_made_book, defBody s_made_book, defScope s_made_book, [], []⟩
def dd_is_lot : He.DefD := ⟨("is_lot", none), "is_lot", "is_lot", defArgs s_is_lot, defBody s_is_lot, defScope s_is_lot, [], []⟩
def dd_want_lot : He.DefD := ⟨("want_lot", none), "want_lot", "want_lot", defArgs s_want_lot, defBody s_want_lot, defScope s_want_lot, [], []⟩
def dd_reached : He.DefD := ⟨("reached", none), "reached", "reached", defArgs s_reached, defBody s_reached, defScope s_reached, [], []⟩
def dd_parts_in : He.DefD := ⟨("parts_in", none), "parts_in", "parts_in", defArgs s_parts_in, defBody s_parts_in, defScope s_parts_in, [], []⟩
def dd_common_lets : He.DefD := ⟨("common_lets", none), "common_lets", "common_lets", defArgs s_common_lets, defBody s_common_lets, defScope s_common_lets, [], []⟩
def dd_turned : He.DefD := ⟨("turned", none), "turned", "turned", defArgs s_turned, defBody s_turned, defScope s_turned, [], []⟩
def dd_turned_lets : He.DefD := ⟨("turned_lets", none), "turned_lets", "turned_lets", defArgs s_turned_lets, defBody s_turned_lets, defScope s_turned_lets, [], []⟩
def dd_all_lets : He.DefD := ⟨("all_lets", none), "all_lets", "all_lets", defArgs s_all_lets, defBody s_all_lets, defScope s_all_lets, [], []⟩
def dd_near_of : He.DefD := ⟨("near_of", none), "near_of", "near_of", defArgs s_near_of, defBody s_near_of, defScope s_near_of, [], []⟩
def dd_world_of : He.DefD := ⟨("world_of", none), "world_of", "world_of", defArgs s_world_of, defBody s_world_of, defScope s_world_of, [], []⟩
def dd_parts : He.DefD := ⟨("parts", none), "parts", "parts", defArgs s_parts, defBody s_parts, defScope s_parts, [], []⟩
def dd__law_lots_right : He.DefD := ⟨("_law_lots_right", none), "_law_lots_right", "_law_lots_right", defArgs s__law_lots_right, defBody s__law_lots_right, defScope s__law_lots_right, [], []⟩
def dd__law_refused : He.DefD := ⟨("_law_refused", none), "_law_refused", "_law_refused", defArgs s__law_refused, defBody s__law_refused, defScope s__law_refused, [], []⟩
def dd_law : He.DefD := ⟨("law", none), "law", "law", defArgs s_law, defBody s_law, defScope s_law, [], []⟩
def ts_TURNED : He.Tab := (fun K => He.ga K ("TURNED" : Str), [("apart" : Str), ("in" : Str), ("around" : Str)])
def ts : List He.Tab := [ts_TURNED]
def fn : List He.DefD := [dd__law_every, dd__law_pool, dd__law_is_told, dd__law_take, dd__law_one, dd__law_rooms, dd__law_other, dd__law_lot, dd__law_book, dd__law_mixed, dd__law_chain, dd__law_closed, dd_is_whole, dd_made_rooms, dd_all_standings, dd_is_standing, dd_is_lets, dd_is_thing, dd_says_right, dd_first_wrong, dd_is_pair, dd_made_book, dd_is_lot, dd_want_lot, dd_reached, dd_parts_in, dd_common_lets, dd_turned, dd_turned_lets, dd_all_lets, dd_near_of, dd_world_of, dd_parts, dd__law_lots_right, dd__law_refused, dd_law]
def fa : List He.Fa := [.free "len", .free "int", .free "str", .free "tuple", .free "list", .free "max", .free "min", .free "isinstance", .free "sorted", .free "range", .free "enumerate", .free "bool", .free "ValueError", .int "MOST_THINGS" 24, .int "MOST_ROOMS" 4, .int "MOST_SAYINGS" 400, .glo "APART", .glo "TURNED", .glo "Refused", .glo "BadRooms", .glo "BadThing", .glo "BadBook", .glo "BadSaying", .glo "BadLot", .glo "TooMany", .free "super", .glo "_law_every", .glo "_law_pool", .glo "_law_is_told", .glo "_law_take", .glo "_law_one", .glo "_law_rooms", .glo "_law_other", .glo "_law_lot", .glo "_law_book", .glo "_law_mixed", .glo "_law_chain", .glo "_law_closed", .glo "is_whole", .glo "made_rooms", .glo "all_standings", .glo "is_standing", .glo "is_lets", .glo "is_thing", .glo "says_right", .glo "first_wrong", .glo "is_pair", .glo "made_book", .glo "is_lot", .glo "want_lot", .glo "reached", .glo "parts_in", .glo "common_lets", .glo "turned", .glo "turned_lets", .glo "all_lets", .glo "near_of", .glo "world_of", .glo "parts", .glo "_law_lots_right", .glo "_law_refused", .glo "law"]
abbrev PP : Program := PySem.Challenge.pw_nestsay_k05_lots_that_hang_together_by_l
abbrev s_ini : Stmt := mth (top 1)
abbrev ini : Str × Option Str := ("Refused", some "__init__")
def tf : List (He.Defn × Str) := []
def ex (K : PySem.W.Frag) : Bool := He.tupB K "APART" [.str ("apart" : Str), .int 0] && gdB K ("TURNED" : Str) [(("apart" : Str), ("apart" : Str)), (("in" : Str), ("around" : Str)), (("around" : Str), ("in" : Str))] && clsB K cl && initB PP K (He.fAd K ini) (He.ga K "Refused") "Refused.__init__" && excB K (He.fAd K ini) (He.ga K "Refused") (He.ga K "BadRooms") && excB K (He.fAd K ini) (He.ga K "Refused") (He.ga K "BadBook") && excB K (He.fAd K ini) (He.ga K "Refused") (He.ga K "BadSaying") && excB K (He.fAd K ini) (He.ga K "Refused") (He.ga K "BadLot") && excB K (He.fAd K ini) (He.ga K "Refused") (He.ga K "TooMany") && tfB K tf
abbrev R : PySem.W.OpenRow := PySem.W.OpenLaw.row PySem.Challenge.rw_nestsay_k05_lots_that_hang_together_by_l
def iv : IniW := some (("__init__" : Str), ("Refused.__init__" : Str), defArgs s_ini, FuncBody.stmts (defBody s_ini), defScope s_ini, mainGlobals, [("__class__" : Str)], builtinsNs)
abbrev hk : PySem.W.Hook := hookF 5 fa fn ts (tf.map (·.1)) ex ini iv
def ob (s : PySem.W.SharedT) : hk.α := obsE 5 fa fn ts (tf.map (·.1)) ex ini (HandSHeadRun.getT s)
theorem ob_eq (s : PySem.W.SharedT) : ob s = hk.obs s.abs := obsE_eq (v := iv) (HandSHeadRun.getT_eq s)
theorem init_cal {w : World} {K : PySem.W.Frag} {mg : Str → Option Value} {base : Heap} {fI D : Addr} (F : InitF PP K mg fI D (defArgs s_ini) (defBody s_ini) (defScope s_ini) "Refused.__init__") : ∃ fd, FnOk PP w K mg base (CX PP w) 1 fI fd ["self", "what"] (spIn K fI D) ∧ Binds K fd ["self", "what"] [] :=
  init_ok F (NdefX.nscope_by (by decide +kernel)) (by rfl) (by rfl) (fun _ _ _ _ _ us hl => match us, hl with | [_, _], _ => rfl) (by decide +kernel) (fun _ _ _ _ => ⟨_, rfl⟩) (fun _ _ _ _ => rfl) (fun _ _ _ _ => rfl) rfl
def loose : List Str := [("Refused" : Str), ("BadRooms" : Str), ("BadThing" : Str), ("BadBook" : Str), ("BadSaying" : Str), ("BadLot" : Str), ("TooMany" : Str), ("MOST_THINGS" : Str), ("MOST_ROOMS" : Str), ("is_whole" : Str), ("made_rooms" : Str), ("is_thing" : Str), ("APART" : Str), ("TURNED" : Str), ("all_standings" : Str), ("is_standing" : Str), ("turned" : Str), ("is_lets" : Str), ("says_right" : Str), ("turned_lets" : Str), ("MOST_SAYINGS" : Str), ("is_pair" : Str), ("first_wrong" : Str), ("made_book" : Str), ("common_lets" : Str), ("all_lets" : Str), ("is_lot" : Str), ("want_lot" : Str), ("near_of" : Str), ("world_of" : Str), ("reached" : Str), ("parts_in" : Str), ("parts" : Str), ("_law_pool" : Str), ("_law_take" : Str), ("_law_one" : Str), ("_law_mixed" : Str), ("_law_every" : Str), ("_law_rooms" : Str), ("_law_lot" : Str), ("_law_other" : Str), ("_law_closed" : Str), ("_law_is_told" : Str), ("_law_book" : Str), ("_law_chain" : Str), ("_law_lots_right" : Str), ("_law_refused" : Str)]
theorem run_f (w : World) : HandSHeadRun.RunEq R (PySem.W.view R.prog [54]) hk ob 5900 loose (w.withFollow "special-get-raises" false) := by
  intro os
  kernel_rfl
theorem run_t (w : World) : HandSHeadRun.RunEq R (PySem.W.view R.prog [54]) hk ob 5900 loose (w.withFollow "special-get-raises" true) := by
  intro os
  kernel_rfl
theorem run (w : World) : HandSHeadRun.RunEq R (PySem.W.view R.prog [54]) hk ob 5900 loose w := PySem.W.byRow2 "special-get-raises" (P := fun w => HandSHeadRun.RunEq R (PySem.W.view R.prog [54]) hk ob 5900 loose w) run_f run_t w
theorem fx {w : World} {K : PySem.W.Frag} {h : Heap} {mg : Str → Option Value} (X : K.In h) (G : h.Ns mainGlobals mg) (c : He.SaysX fa fn ts (tf.map (·.1)) ex w h K) (d : iniW K ini = iv) : Fx PP w K mg (csOf K (tf.map (·.1))) (tbOf K tf) where
  n_len := He.free_ok X G (c.t.d.fact 0 (f := .free "len") rfl)
  n_int := He.free_ok X G (c.t.d.fact 1 (f := .free "int") rfl)
  n_str := He.free_ok X G (c.t.d.fact 2 (f := .free "str") rfl)
  n_tuple := He.free_ok X G (c.t.d.fact 3 (f := .free "tuple") rfl)
  n_list := He.free_ok X G (c.t.d.fact 4 (f := .free "list") rfl)
  n_max := He.free_ok X G (c.t.d.fact 5 (f := .free "max") rfl)
  n_min := He.free_ok X G (c.t.d.fact 6 (f := .free "min") rfl)
  n_isinstance := He.free_ok X G (c.t.d.fact 7 (f := .free "isinstance") rfl)
  n_sorted := He.free_ok X G (c.t.d.fact 8 (f := .free "sorted") rfl)
  n_range := He.free_ok X G (c.t.d.fact 9 (f := .free "range") rfl)
  n_enumerate := He.free_ok X G (c.t.d.fact 10 (f := .free "enumerate") rfl)
  n_bool := He.free_ok X G (c.t.d.fact 11 (f := .free "bool") rfl)
  n_ValueError := He.free_ok X G (c.t.d.fact 12 (f := .free "ValueError") rfl)
  c_MOST_THINGS := He.int_ok X G (c.t.d.fact 13 (f := .int "MOST_THINGS" 24) rfl)
  c_MOST_ROOMS := He.int_ok X G (c.t.d.fact 14 (f := .int "MOST_ROOMS" 4) rfl)
  c_MOST_SAYINGS := He.int_ok X G (c.t.d.fact 15 (f := .int "MOST_SAYINGS" 400) rfl)
  t_APART := ⟨_, He.glo_ok X G (c.t.d.fact 16 (f := .glo "APART") rfl), fun T ρ H => rl_wtup (l := [(.str ("apart" : Str)), (.int 0)]) rfl (He.tupB_ok (x := "APART") (vs := [.str ("apart" : Str), .int 0]) (He.ba (He.ba (He.ba (He.ba (He.ba (He.ba (He.ba (He.ba (He.ba c.more).1).1).1).1).1).1).1).1).1 fun _ => none) (.cons (.str _) (.cons (.int _) .nil))⟩
  gd_TURNED := gdF_ok (He.glo_ok X G (c.t.d.fact 17 (f := .glo "TURNED") rfl)) (c.t.tab 0 (t := ts_TURNED) rfl) (He.ba (He.ba (He.ba (He.ba (He.ba (He.ba (He.ba (He.ba (He.ba c.more).1).1).1).1).1).1).1).1).2
  k_Refused := ⟨_, (He.glo_ok X G (c.t.d.fact 18 (f := .glo "Refused") rfl))⟩
  k_BadRooms := ⟨_, (He.glo_ok X G (c.t.d.fact 19 (f := .glo "BadRooms") rfl))⟩
  k_BadThing := ⟨_, (He.glo_ok X G (c.t.d.fact 20 (f := .glo "BadThing") rfl))⟩
  k_BadBook := ⟨_, (He.glo_ok X G (c.t.d.fact 21 (f := .glo "BadBook") rfl))⟩
  k_BadSaying := ⟨_, (He.glo_ok X G (c.t.d.fact 22 (f := .glo "BadSaying") rfl))⟩
  k_BadLot := ⟨_, (He.glo_ok X G (c.t.d.fact 23 (f := .glo "BadLot") rfl))⟩
  k_TooMany := ⟨_, (He.glo_ok X G (c.t.d.fact 24 (f := .glo "TooMany") rfl))⟩
  cls := clsT_ok (He.ba (He.ba (He.ba (He.ba (He.ba (He.ba (He.ba (He.ba c.more).1).1).1).1).1).1).1).2 (fun p hp => by simp only [cl, List.mem_cons, List.not_mem_nil, or_false] at hp; rcases hp with rfl | rfl | rfl | rfl | rfl | rfl | rfl; exact (He.glo_ok X G (c.t.d.fact 18 (f := .glo "Refused") rfl)); exact (He.glo_ok X G (c.t.d.fact 19 (f := .glo "BadRooms") rfl)); exact (He.glo_ok X G (c.t.d.fact 20 (f := .glo "BadThing") rfl)); exact (He.glo_ok X G (c.t.d.fact 21 (f := .glo "BadBook") rfl)); exact (He.glo_ok X G (c.t.d.fact 22 (f := .glo "BadSaying") rfl)); exact (He.glo_ok X G (c.t.d.fact 23 (f := .glo "BadLot") rfl)); exact (He.glo_ok X G (c.t.d.fact 24 (f := .glo "TooMany") rfl))) (He.free_ok X G (c.t.d.fact 12 (f := .free "ValueError") rfl))
  x_BadRooms := fun base => have I := initF_ok d (He.ba (He.ba (He.ba (He.ba (He.ba (He.ba (He.ba c.more).1).1).1).1).1).1).2 (He.free_ok X G (c.t.d.fact 25 (f := .free "super") rfl)); excCal_of (He.glo_ok X G (c.t.d.fact 19 (f := .glo "BadRooms") rfl)) (excB_ok (He.ba (He.ba (He.ba (He.ba (He.ba (He.ba c.more).1).1).1).1).1).2) I.tF (init_cal I)
  x_BadBook := fun base => have I := initF_ok d (He.ba (He.ba (He.ba (He.ba (He.ba (He.ba (He.ba c.more).1).1).1).1).1).1).2 (He.free_ok X G (c.t.d.fact 25 (f := .free "super") rfl)); excCal_of (He.glo_ok X G (c.t.d.fact 21 (f := .glo "BadBook") rfl)) (excB_ok (He.ba (He.ba (He.ba (He.ba (He.ba c.more).1).1).1).1).2) I.tF (init_cal I)
  x_BadSaying := fun base => have I := initF_ok d (He.ba (He.ba (He.ba (He.ba (He.ba (He.ba (He.ba c.more).1).1).1).1).1).1).2 (He.free_ok X G (c.t.d.fact 25 (f := .free "super") rfl)); excCal_of (He.glo_ok X G (c.t.d.fact 22 (f := .glo "BadSaying") rfl)) (excB_ok (He.ba (He.ba (He.ba (He.ba c.more).1).1).1).2) I.tF (init_cal I)
  x_BadLot := fun base => have I := initF_ok d (He.ba (He.ba (He.ba (He.ba (He.ba (He.ba (He.ba c.more).1).1).1).1).1).1).2 (He.free_ok X G (c.t.d.fact 25 (f := .free "super") rfl)); excCal_of (He.glo_ok X G (c.t.d.fact 23 (f := .glo "BadLot") rfl)) (excB_ok (He.ba (He.ba (He.ba c.more).1).1).2) I.tF (init_cal I)
  x_TooMany := fun base => have I := initF_ok d (He.ba (He.ba (He.ba (He.ba (He.ba (He.ba (He.ba c.more).1).1).1).1).1).1).2 (He.free_ok X G (c.t.d.fact 25 (f := .free "super") rfl)); excCal_of (He.glo_ok X G (c.t.d.fact 24 (f := .glo "TooMany") rfl)) (excB_ok (He.ba (He.ba c.more).1).2) I.tF (init_cal I)
  d__law_every := by
    obtain ⟨fd, D⟩ := c.t.d.def_ 0 (d := dd__law_every) rfl
    exact ⟨_, fd, D, He.glo_ok X G (c.t.d.fact 26 (f := .glo "_law_every") rfl)⟩
  d__law_pool := by
    obtain ⟨fd, D⟩ := c.t.d.def_ 1 (d := dd__law_pool) rfl
    exact ⟨_, fd, D, He.glo_ok X G (c.t.d.fact 27 (f := .glo "_law_pool") rfl)⟩
  d__law_is_told := by
    obtain ⟨fd, D⟩ := c.t.d.def_ 2 (d := dd__law_is_told) rfl
    exact ⟨_, fd, D, He.glo_ok X G (c.t.d.fact 28 (f := .glo "_law_is_told") rfl)⟩
  d__law_take := by
    obtain ⟨fd, D⟩ := c.t.d.def_ 3 (d := dd__law_take) rfl
    exact ⟨_, fd, D, He.glo_ok X G (c.t.d.fact 29 (f := .glo "_law_take") rfl)⟩
  d__law_one := by
    obtain ⟨fd, D⟩ := c.t.d.def_ 4 (d := dd__law_one) rfl
    exact ⟨_, fd, D, He.glo_ok X G (c.t.d.fact 30 (f := .glo "_law_one") rfl)⟩
  d__law_rooms := by
    obtain ⟨fd, D⟩ := c.t.d.def_ 5 (d := dd__law_rooms) rfl
    exact ⟨_, fd, D, He.glo_ok X G (c.t.d.fact 31 (f := .glo "_law_rooms") rfl)⟩
  d__law_other := by
    obtain ⟨fd, D⟩ := c.t.d.def_ 6 (d := dd__law_other) rfl
    exact ⟨_, fd, D, He.glo_ok X G (c.t.d.fact 32 (f := .glo "_law_other") rfl)⟩
  d__law_lot := by
    obtain ⟨fd, D⟩ := c.t.d.def_ 7 (d := dd__law_lot) rfl
    exact ⟨_, fd, D, He.glo_ok X G (c.t.d.fact 33 (f := .glo "_law_lot") rfl)⟩
  d__law_book := by
    obtain ⟨fd, D⟩ := c.t.d.def_ 8 (d := dd__law_book) rfl
    exact ⟨_, fd, D, He.glo_ok X G (c.t.d.fact 34 (f := .glo "_law_book") rfl)⟩
  d__law_mixed := by
    obtain ⟨fd, D⟩ := c.t.d.def_ 9 (d := dd__law_mixed) rfl
    exact ⟨_, fd, D, He.glo_ok X G (c.t.d.fact 35 (f := .glo "_law_mixed") rfl)⟩
  d__law_chain := by
    obtain ⟨fd, D⟩ := c.t.d.def_ 10 (d := dd__law_chain) rfl
    exact ⟨_, fd, D, He.glo_ok X G (c.t.d.fact 36 (f := .glo "_law_chain") rfl)⟩
  d__law_closed := by
    obtain ⟨fd, D⟩ := c.t.d.def_ 11 (d := dd__law_closed) rfl
    exact ⟨_, fd, D, He.glo_ok X G (c.t.d.fact 37 (f := .glo "_law_closed") rfl)⟩
  d_is_whole := by
    obtain ⟨fd, D⟩ := c.t.d.def_ 12 (d := dd_is_whole) rfl
    exact ⟨_, fd, D, He.glo_ok X G (c.t.d.fact 38 (f := .glo "is_whole") rfl)⟩
  d_made_rooms := by
    obtain ⟨fd, D⟩ := c.t.d.def_ 13 (d := dd_made_rooms) rfl
    exact ⟨_, fd, D, He.glo_ok X G (c.t.d.fact 39 (f := .glo "made_rooms") rfl)⟩
  d_all_standings := by
    obtain ⟨fd, D⟩ := c.t.d.def_ 14 (d := dd_all_standings) rfl
    exact ⟨_, fd, D, He.glo_ok X G (c.t.d.fact 40 (f := .glo "all_standings") rfl)⟩
  d_is_standing := by
    obtain ⟨fd, D⟩ := c.t.d.def_ 15 (d := dd_is_standing) rfl
    exact ⟨_, fd, D, He.glo_ok X G (c.t.d.fact 41 (f := .glo "is_standing") rfl)⟩
  d_is_lets := by
    obtain ⟨fd, D⟩ := c.t.d.def_ 16 (d := dd_is_lets) rfl
    exact ⟨_, fd, D, He.glo_ok X G (c.t.d.fact 42 (f := .glo "is_lets") rfl)⟩
  d_is_thing := by
    obtain ⟨fd, D⟩ := c.t.d.def_ 17 (d := dd_is_thing) rfl
    exact ⟨_, fd, D, He.glo_ok X G (c.t.d.fact 43 (f := .glo "is_thing") rfl)⟩
  d_says_right := by
    obtain ⟨fd, D⟩ := c.t.d.def_ 18 (d := dd_says_right) rfl
    exact ⟨_, fd, D, He.glo_ok X G (c.t.d.fact 44 (f := .glo "says_right") rfl)⟩
  d_first_wrong := by
    obtain ⟨fd, D⟩ := c.t.d.def_ 19 (d := dd_first_wrong) rfl
    exact ⟨_, fd, D, He.glo_ok X G (c.t.d.fact 45 (f := .glo "first_wrong") rfl)⟩
  d_is_pair := by
    obtain ⟨fd, D⟩ := c.t.d.def_ 20 (d := dd_is_pair) rfl
    exact ⟨_, fd, D, He.glo_ok X G (c.t.d.fact 46 (f := .glo "is_pair") rfl)⟩
  d_made_book := by
    obtain ⟨fd, D⟩ := c.t.d.def_ 21 (d := dd_made_book) rfl
    exact ⟨_, fd, D, He.glo_ok X G (c.t.d.fact 47 (f := .glo "made_book") rfl)⟩
  d_is_lot := by
    obtain ⟨fd, D⟩ := c.t.d.def_ 22 (d := dd_is_lot) rfl
    exact ⟨_, fd, D, He.glo_ok X G (c.t.d.fact 48 (f := .glo "is_lot") rfl)⟩
  d_want_lot := by
    obtain ⟨fd, D⟩ := c.t.d.def_ 23 (d := dd_want_lot) rfl
    exact ⟨_, fd, D, He.glo_ok X G (c.t.d.fact 49 (f := .glo "want_lot") rfl)⟩
  d_reached := by
    obtain ⟨fd, D⟩ := c.t.d.def_ 24 (d := dd_reached) rfl
    exact ⟨_, fd, D, He.glo_ok X G (c.t.d.fact 50 (f := .glo "reached") rfl)⟩
  d_parts_in := by
    obtain ⟨fd, D⟩ := c.t.d.def_ 25 (d := dd_parts_in) rfl
    exact ⟨_, fd, D, He.glo_ok X G (c.t.d.fact 51 (f := .glo "parts_in") rfl)⟩
  d_common_lets := by
    obtain ⟨fd, D⟩ := c.t.d.def_ 26 (d := dd_common_lets) rfl
    exact ⟨_, fd, D, He.glo_ok X G (c.t.d.fact 52 (f := .glo "common_lets") rfl)⟩
  d_turned := by
    obtain ⟨fd, D⟩ := c.t.d.def_ 27 (d := dd_turned) rfl
    exact ⟨_, fd, D, He.glo_ok X G (c.t.d.fact 53 (f := .glo "turned") rfl)⟩
  d_turned_lets := by
    obtain ⟨fd, D⟩ := c.t.d.def_ 28 (d := dd_turned_lets) rfl
    exact ⟨_, fd, D, He.glo_ok X G (c.t.d.fact 54 (f := .glo "turned_lets") rfl)⟩
  d_all_lets := by
    obtain ⟨fd, D⟩ := c.t.d.def_ 29 (d := dd_all_lets) rfl
    exact ⟨_, fd, D, He.glo_ok X G (c.t.d.fact 55 (f := .glo "all_lets") rfl)⟩
  d_near_of := by
    obtain ⟨fd, D⟩ := c.t.d.def_ 30 (d := dd_near_of) rfl
    exact ⟨_, fd, D, He.glo_ok X G (c.t.d.fact 56 (f := .glo "near_of") rfl)⟩
  d_world_of := by
    obtain ⟨fd, D⟩ := c.t.d.def_ 31 (d := dd_world_of) rfl
    exact ⟨_, fd, D, He.glo_ok X G (c.t.d.fact 57 (f := .glo "world_of") rfl)⟩
  d_parts := by
    obtain ⟨fd, D⟩ := c.t.d.def_ 32 (d := dd_parts) rfl
    exact ⟨_, fd, D, He.glo_ok X G (c.t.d.fact 58 (f := .glo "parts") rfl)⟩
  d__law_lots_right := by
    obtain ⟨fd, D⟩ := c.t.d.def_ 33 (d := dd__law_lots_right) rfl
    exact ⟨_, fd, D, He.glo_ok X G (c.t.d.fact 59 (f := .glo "_law_lots_right") rfl)⟩
  d__law_refused := by
    obtain ⟨fd, D⟩ := c.t.d.def_ 34 (d := dd__law_refused) rfl
    exact ⟨_, fd, D, He.glo_ok X G (c.t.d.fact 60 (f := .glo "_law_refused") rfl)⟩
  d_law := by
    obtain ⟨fd, D⟩ := c.t.d.def_ 35 (d := dd_law) rfl
    exact ⟨_, fd, D, He.glo_ok X G (c.t.d.fact 61 (f := .glo "law") rfl)⟩
theorem lawF {w : World} {K : PySem.W.Frag} {h : Heap} {mg : Str → Option Value} (X : K.In h) (G : h.Ns mainGlobals mg) (c : He.SaysX fa fn ts (tf.map (·.1)) ex w h K) (d : iniW K ini = iv) :
    ∃ (K : PySem.W.Frag) (fa : Addr) (fd : FuncData) (cs : List (Addr × Addr)) (tb : List (Addr × Str)), K.In h ∧ mg (HandSHeadRun.topDef (PySem.W.OpenLaw.row PySem.Challenge.rw_nestsay_k05_lots_that_hang_together_by_l).prog 54).name = some (.ref fa) ∧ (∀ (s : Shared) (us : List Value), us.length = 1 → BindsTo s fd ⟨us, []⟩ (([("_law_script" : Str)]).zip us)) ∧
      (∀ p ∈ cs, h.get? p.2 = some { cls := .none, data := .fields #[] }) ∧ (∀ p ∈ cs, K.lookup p.2 = none) ∧ (∀ p ∈ cs, PySem.W.CodeHd h p.1 p.2) ∧ (∀ p ∈ tb, ∃ c, (c, p.1) ∈ cs) ∧
      ∀ base : Heap, (∀ p ∈ cs, LamX.TabB base mg p.1 p.2) → FnD PP w K mg base tb 9 fa fd ["_law_script"] d_law := by
  have F := fx X G c d
  obtain ⟨f, fd, D, hm⟩ := F.d_law
  have e : (HandSHeadRun.topDef (PySem.W.OpenLaw.row PySem.Challenge.rw_nestsay_k05_lots_that_hang_together_by_l).prog 54).name = ("law" : Str) := by kernel_rfl
  obtain ⟨t1, t2, t3⟩ := tf_ok X c
  exact ⟨K, f, fd, _, tbOf K tf, X, by rw [e]; exact hm, fun s us hl => FunD.bindsA (ps := ["_law_script"]) D (fun _ _ _ _ _ _ us hl => match us, hl with | [_], _ => rfl) s us hl, t1, t2, t3, tb_cs, fun base TB => fn_law F D⟩
end K05
open PySem PySem.W PySem.Calls PyProof.Rows
theorem PySem.Challenge.cw_nestsay_k05_lots_that_hang_together_by_l_holds : PySem.Challenge.rw_nestsay_k05_lots_that_hang_together_by_l.Holds := by
  w_on; o_law
  refine HandSHeadRun.head_any (r := OpenLaw.row PySem.Challenge.rw_nestsay_k05_lots_that_hang_together_by_l) (q := view (OpenLaw.row PySem.Challenge.rw_nestsay_k05_lots_that_hang_together_by_l).prog [54]) (H := K05.hk) (ob := K05.ob) (M := 5900) (loose := K05.loose) (d := HandSHeadRun.topDef (OpenLaw.row PySem.Challenge.rw_nestsay_k05_lots_that_hang_together_by_l).prog 54) (kwd := []) K05.ob_eq
    (by kernel_rfl) (fun s => by kernel_rfl) K05.run (by kernel_rfl) (by kernel_rfl) (by kernel_rfl) (by rfl) (by first | assumption | decide +kernel) (by decide +kernel) ⟨rfl, rfl, rfl, rfl, rfl, by decide +kernel⟩ ?hw ?hc
  case hw => w_witness2
  case hc =>
    exact DN.law_walkT (l := PySem.Challenge.rw_nestsay_k05_lots_that_hang_together_by_l) (k := 9) (d := HandSHeadRun.topDef (OpenLaw.row PySem.Challenge.rw_nestsay_k05_lots_that_hang_together_by_l).prog 54) (dl := K05.d_law) rfl (by kernel_rfl) ⟨rfl, by decide, by decide⟩ (fun w mg h ⟨K, KX, c, d⟩ hns => K05.lawF KX hns c d) K05.law_true
