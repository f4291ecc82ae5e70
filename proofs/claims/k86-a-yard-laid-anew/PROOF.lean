import PyProof.Rows.All
import HandS.ForExc
import HandS.Comp
import HandS.Dict
import HandS.Iter
import HandS.Walk
import HandS.Text
import HandS.Deep
import HandS.IsInst
import HandS.Lambda
import HandS.Flow
import HandS.TupAny
import HandS.List
import HandS.TupMul
import HandS.Wide
import HandS.Style
import HandS.Conv
import HandS.SortInts
import HandS.RaiseMore
import HandS.TupLen
import HandS.WordsDict
import HandS.More
import KE.GoesMore
import HandS.Defaults
import HandS.Words
import HandS.WordsExc
import HandS.ExcCtx
import HandS.Strs
import HandS.Ends
import HandS.HeadEnd
import HandS.EndBits
import HandS.EndTab
import HandS.HeadHook4
import HandS.ExcInit
import HandS.ExcIs
import HandS.ExcOwn
import HandS.TryMany
import HandS.Nested
import HandS.HotCalls
import HandS.ExcInitHot
import KE.KExcSuper
import KE.KExcIs
import HandS.HeadHook1
import HandS.Head0
import PySem.Challenge.RW_nestsay_k86_a_yard_laid_anew
import KE.KStateDown
import HandS.Head1
import HandS.Head2
import HandS.HeadHook2
import HandS.HeadHook3
import HandS.DictComp
import HandS.DictTup
import PyProof.ReprRoads
import PyProof.CallFns
import PyProof.EqLayable
import HandS.Zip
import KE.DataMinKey
import HandS.Rev
import HandS.SortOrd
import HandS.SortRule
import KE.KDictCopyH
import KE.KDictOf
import KE.KDictKeyed
import PyProof.Rows.SortShellAny
import PyProof.StrOps2
import HandS.SetFor
import HandS.SortKw
import KE.DataEq
import KE.KEqDict
import KE.SortUse
import HandS.Keys
import HandS.StrMore
import HandS.FStr
import PyProof.ReprLen
import PyProof.StrLawsTight
import PyProof.StrLawsLast
set_option Elab.async false
set_option linter.all false
set_option maxRecDepth 100000
set_option maxHeartbeats 2000000
namespace DN
open PySem PySem.Spec PyProof.Rows L2
abbrev St := L2.St
def KT (K : PySem.W.Frag) (a : Addr) (xs : List V) : Prop :=
  ∃ (o : Obj) (its : Array Value) (n : Nat), K.lookup a = some o ∧ o.cls = .type "tuple" ∧ o.data = .seq its n ∧ its.size ≤ sizeLine ∧ Vals xs its.toList
structure Lm where
  a : Addr
  c : Addr
  q : Str
  vs : List V
structure TR where
  tabs : List (Addr × Str)
  res : List Addr
  err : Option (Addr × Str × Addr) := none
  lam : Option Lm := none
def Out (T : TR) (ρ : List Addr) (a : Addr) : Prop := a ∉ ρ ∧ a ∉ T.res
def LV (T : TR) (ρ : List Addr) (H : Hp) (a : Addr) (xs : List V) : Prop := Rd H a (.lst xs) ∧ Out T ρ a
def TU : HO → Prop
  | .tup _ => True
  | .frz _ (.tup _) => True
  | .ext _ => True
  | _ => False
structure PlT (o : Obj) : Prop where
  cls : o.cls = .type "tuple"
  dict : o.dict = none
def mkT (b : Bool) (o : Obj) (xs : List V) : HO := match b with
  | true => .frz o (.tup xs)
  | false => .tup xs
theorem mkT_tu (b : Bool) (o : Obj) (xs : List V) : TU (mkT b o xs) := by cases b <;> trivial
def TV (K : PySem.W.Frag) (H : Hp) (w f : Bool) (a : Addr) (xs : List V) : Prop := (∃ o, PlT o ∧ H a = some (mkT f o xs)) ∨ (w = true ∧ KT K a xs)
inductive PV where
  | non | bl (b : Bool) | int (i : Int) | str (x : Str)
  | tup (l : List PV) | ftp (l : List PV) | lst (l : List PV) | dK (ks : List Key) (vs : List PV) | dT (ks : List (List Key)) (vs : List PV)
  | ref (n : Nat) | con (x : Str) | ty (n : String)
  | scr (l : List PV)
  | err (c : Str) (w : PV)
  | fnv (l : List PV)
inductive SO where
  | lst (l : List PV) | dK (es : List (Key × PV)) | dT (es : List (List Key × PV)) | ins (C : Str) (fs : List (Str × PV))
abbrev Store := List SO
inductive Res (α : Type) where
  | ok (a : α) (st : Store)
  | exc (c : Str) (w : PV) (st : Store)
  | fail
abbrev M (α : Type) := Store → Res α
def Res.bind {α β : Type} (r : Res α) (k : α → Store → Res β) : Res β := match r with
  | .ok a st => k a st
  | .exc c w st => .exc c w st
  | .fail => .fail
abbrev AE := List (Option PV)
def isW : List PV → Bool
  | [.str x, .int 0] => decide (x = ("apart" : Str))
  | [.str x, .str y] => decide (x = ("yes" : Str)) && decide (y = ("no" : Str))
  | .str _ :: .str _ :: .str _ :: _ => true
  | _ => false
def isF : List PV → Bool
  | .tup [.str x, .int 0] :: _ => decide (x = ("apart" : Str))
  | _ => false
structure DG where
  K : PySem.W.Frag
  mg : Str → Option Value
  T : TR
abbrev gOf (X : Cx) (T : TR) : DG := ⟨X.K, X.mg, T⟩
def kpv : Key → PV
  | .inl i => .int i
  | .inr x => .str x
mutual
inductive Rl (G : DG) (ρ : List Addr) (H : Hp) : PV → V → Prop where
  | non : Rl G ρ H .non .non
  | bl (b : Bool) : Rl G ρ H (.bl b) (.bl b)
  | int (i : Int) : Rl G ρ H (.int i) (.int i)
  | str (x : Str) : Rl G ρ H (.str x) (.str x)
  | ty (n : String) : Rl G ρ H (.ty n) (.ty n)
  | tup {a : Addr} {l : List PV} {xs : List V} : TV G.K H (isW l) (isF l) a xs → RlAll G ρ H l xs → Rl G ρ H (.tup l) (.ref a)
  | ftp {a : Addr} {l : List PV} {xs : List V} : (∃ o, PlT o ∧ H a = some (.frz o (.tup xs))) → RlAll G ρ H l xs → Rl G ρ H (.ftp l) (.ref a)
  | lst {a : Addr} {l : List PV} {xs : List V} : LV G.T ρ H a xs → RlAll G ρ H l xs → Rl G ρ H (.lst l) (.ref a)
  | dK {a : Addr} {ks : List Key} {vs : List PV} {kvs : List (Key × V)} : Rd H a (.dK kvs) → Out G.T ρ a → ks = kvs.map (·.1) → RlAll G ρ H vs (kvs.map (·.2)) → Rl G ρ H (.dK ks vs) (.ref a)
  | dT {a : Addr} {ks : List (List Key)} {vs : List PV} {kvs : List (List Key × V)} : Rd H a (.dT kvs) → Out G.T ρ a → ks = kvs.map (·.1) → RlAll G ρ H vs (kvs.map (·.2)) → Rl G ρ H (.dT ks vs) (.ref a)
  | ref {n : Nat} {a : Addr} : ρ[n]? = some a → Rl G ρ H (.ref n) (.ref a)
  | con {x : Str} {a : Addr} : G.mg x = some (.ref a) → Rl G ρ H (.con x) (.ref a)
  | scr {a : Addr} {l : List PV} {xs : List V} : (LV G.T ρ H a xs ∨ ∀ H, SqL G.K H a xs) → RlAll G ρ H l xs → Rl G ρ H (.scr l) (.ref a)
  | err {a d : Addr} {c : Str} {w : PV} {v : V} : G.T.err = some (a, c, d) → Rd H d (.xd [(("what" : Str), v)]) → Out G.T ρ d → Rl G ρ H w v → Rl G ρ H (.err c w) (.ref a)
  | fnv {L : Lm} {l : List PV} : G.T.lam = some L → H L.c = some (LamX.CodeO L.c L.q) → RlAll G ρ H l L.vs → Rl G ρ H (.fnv l) (.ref L.a)
inductive RlAll (G : DG) (ρ : List Addr) (H : Hp) : List PV → List V → Prop where
  | nil : RlAll G ρ H [] []
  | cons {p : PV} {v : V} {ps : List PV} {vs : List V} : Rl G ρ H p v → RlAll G ρ H ps vs → RlAll G ρ H (p :: ps) (v :: vs)
end
inductive RlO (G : DG) (ρ : List Addr) (H : Hp) : SO → Addr → Prop where
  | lst {a : Addr} {l : List PV} {xs : List V} : H a = some (.lst xs) → RlAll G ρ H l xs → RlO G ρ H (.lst l) a
  | dK {a : Addr} {es : List (Key × PV)} {kvs : List (Key × V)} : H a = some (.dK kvs) → es.map (·.1) = kvs.map (·.1) → RlAll G ρ H (es.map (·.2)) (kvs.map (·.2)) → RlO G ρ H (.dK es) a
  | dT {a : Addr} {es : List (List Key × PV)} {kvs : List (List Key × V)} : H a = some (.dT kvs) → es.map (·.1) = kvs.map (·.1) → RlAll G ρ H (es.map (·.2)) (kvs.map (·.2)) → RlO G ρ H (.dT es) a
  | ins {a : Addr} {C : Str} {ca dx : Addr} {fs : List (Str × PV)} {gs : List (Str × V)} : G.mg C = some (.ref ca) → H a = some (.ins ca dx gs) → fs.map (·.1) = gs.map (·.1) → RlAll G ρ H (fs.map (·.2)) (gs.map (·.2)) → RlO G ρ H (.ins C fs) a
def NT (H : Hp) (a : Addr) : Prop := H a = none ∨ ∃ ps, H a = some (.tbl ps)
structure Ext (T : TR) (ρ : List Addr) (H : Hp) (ρ' : List Addr) (H' : Hp) : Prop where
  pre : ρ <+: ρ'
  keep : ∀ a u, Rd H a u → Out T ρ a → (∀ ps, u ≠ .tbl ps) → Rd H' a u
  new : ∀ a ∈ ρ', a ∈ ρ ∨ NT H a
  free : ∀ a, NT H' a → NT H a
  tups : ∀ a u, TU u → H a = some u → H' a = some u
  rs : ∀ a ∈ T.res, ¬ NT H a → H' a = H a
structure RlE (G : DG) (ρ : List Addr) (H : Hp) (aσ : AE) (σ : St) : Prop where
  len : aσ.length = σ.length
  at_ : ∀ (i : Nat) (p : PV), aσ[i]? = some (some p) → ∃ v, σ[i]? = some (some v) ∧ Rl G ρ H p v
structure RlS (G : DG) (ρ : List Addr) (H : Hp) (st : Store) : Prop where
  len : ρ.length = st.length
  nd : ρ.Nodup
  at_ : ∀ (n : Nat) (o : SO) (a : Addr), st[n]? = some o → ρ[n]? = some a → RlO G ρ H o a
  tabs : LamX.Tabs G.T.tabs H
  res : ∀ a ∈ G.T.res, ¬ NT H a ∧ a ∉ ρ
section
variable {G : DG} {ρ ρ' ρ1 : List Addr} {H H' H1 : Hp}
theorem rd_not {H : Hp} {a : Addr} {u : HO} (r : Rd H a u) (n : H a = none) : False := by
  rcases r with r | ⟨o, r⟩ <;> rw [n] at r <;> cases r
theorem rd_nt {H : Hp} {a : Addr} {u : HO} (r : Rd H a u) (t : ∀ ps, u ≠ .tbl ps) (n : NT H a) : False := by
  rcases n with n | ⟨ps, n⟩
  · exact rd_not r n
  · rcases r with r | ⟨o, r⟩
    · rw [r] at n; exact t ps (Option.some.inj n)
    · rw [r] at n; cases n
theorem LV.sq {T : TR} {K : PySem.W.Frag} {a : Addr} {xs : List V} (h : LV T ρ H a xs) : SqL K H a xs := .inl h.1
theorem TV.sq {K : PySem.W.Frag} {w f : Bool} {a : Addr} {xs : List V} (h : TV K H w f a xs) : SqT K H a xs := h.elim (fun ⟨o, _, h⟩ => by
  cases f
  · exact .inl (.inl h)
  · exact .inl (.inr ⟨o, h⟩)) fun h => .inr h.2
theorem Ext.refl {T : TR} : Ext T ρ H ρ H := ⟨List.prefix_refl _, fun _ _ r _ _ => r, fun _ h => .inl h, fun _ h => h, fun _ _ _ h => h, fun _ _ _ => rfl⟩
theorem Ext.notin (e : Ext G.T ρ H ρ' H') {a : Addr} {u : HO} (r : Rd H a u) (n : Out G.T ρ a) (t : ∀ ps, u ≠ .tbl ps := by intro ps z; cases z) : Out G.T ρ' a := ⟨fun h => by
  rcases e.new a h with z | z
  · exact n.1 z
  · exact rd_nt r t z, n.2⟩
theorem Ext.trans (e : Ext G.T ρ H ρ1 H1) (f : Ext G.T ρ1 H1 ρ' H') : Ext G.T ρ H ρ' H' where
  pre := e.pre.trans f.pre
  keep := fun a u r n t => f.keep a u (e.keep a u r n t) (e.notin r n t) t
  new := fun a h => by
    rcases f.new a h with z | z
    · exact e.new a z
    · exact .inr (e.free a z)
  free := fun a h => e.free a (f.free a h)
  tups := fun a u t h => f.tups a u t (e.tups a u t h)
  rs := fun a ha hn => (f.rs a ha (by unfold NT at hn ⊢; rw [e.rs a ha hn]; exact hn)).trans (e.rs a ha hn)
theorem LV.ext (e : Ext G.T ρ H ρ' H') {a : Addr} {xs : List V} (h : LV G.T ρ H a xs) : LV G.T ρ' H' a xs := ⟨e.keep a _ h.1 h.2 (fun _ z => by cases z), e.notin h.1 h.2⟩
theorem TV.ext {K : PySem.W.Frag} {w f : Bool} (e : Ext G.T ρ H ρ' H') {a : Addr} {xs : List V} (h : TV K H w f a xs) : TV K H' w f a xs := h.elim (fun ⟨o, p, h⟩ => .inl ⟨o, p, e.tups a _ (mkT_tu f o xs) h⟩) .inr
mutual
theorem Rl.ext (e : Ext G.T ρ H ρ' H') : ∀ {p : PV} {v : V}, Rl G ρ H p v → Rl G ρ' H' p v
  | _, _, .non => .non
  | _, _, .bl b => .bl b
  | _, _, .int i => .int i
  | _, _, .str x => .str x
  | _, _, .ty n => .ty n
  | _, _, .tup h r => .tup (h.ext e) (RlAll.ext e r)
  | _, _, .ftp h r => .ftp (h.elim fun o h => ⟨o, h.1, e.tups _ _ trivial h.2⟩) (RlAll.ext e r)
  | _, _, .lst h r => .lst (h.ext e) (RlAll.ext e r)
  | _, _, .dK h n k r => .dK (e.keep _ _ h n (fun _ z => by cases z)) (e.notin h n) k (RlAll.ext e r)
  | _, _, .dT h n k r => .dT (e.keep _ _ h n (fun _ z => by cases z)) (e.notin h n) k (RlAll.ext e r)
  | _, _, .ref h => .ref (by
      obtain ⟨t, rfl⟩ := e.pre
      rw [List.getElem?_append_left (List.getElem?_eq_some_iff.mp h).1]
      exact h)
  | _, _, .con h => .con h
  | _, _, .scr h r => .scr (h.imp (fun h => h.ext e) id) (RlAll.ext e r)
  | _, _, .err q h n r => .err q (e.keep _ _ h n (fun _ z => by cases z)) (e.notin h n) (Rl.ext e r)
  | _, _, .fnv q h r => .fnv q (e.tups _ _ trivial h) (RlAll.ext e r)
theorem RlAll.ext (e : Ext G.T ρ H ρ' H') : ∀ {ps : List PV} {vs : List V}, RlAll G ρ H ps vs → RlAll G ρ' H' ps vs
  | _, _, .nil => .nil
  | _, _, .cons r t => .cons (Rl.ext e r) (RlAll.ext e t)
end
theorem RlE.ext (e : Ext G.T ρ H ρ' H') {aσ : AE} {σ : St} (h : RlE G ρ H aσ σ) : RlE G ρ' H' aσ σ :=
  ⟨h.len, fun i p q => let ⟨v, a, b⟩ := h.at_ i p q; ⟨v, a, b.ext e⟩⟩
theorem RlO.ext {o : SO} {a : Addr} (e : Ext G.T ρ H ρ' H') (k : ∀ u, H a = some u → H' a = some u) (h : RlO G ρ H o a) : RlO G ρ' H' o a := by
  cases h with
  | lst h r => exact .lst (k _ h) (r.ext e)
  | dK h x r => exact .dK (k _ h) x (r.ext e)
  | dT h x r => exact .dT (k _ h) x (r.ext e)
  | ins c h x r => exact .ins c (k _ h) x (r.ext e)
theorem RlAll.length : ∀ {ps : List PV} {vs : List V}, RlAll G ρ H ps vs → ps.length = vs.length
  | _, _, .nil => rfl
  | _, _, .cons _ t => by simp [RlAll.length t]
theorem RlAll.get : ∀ {ps : List PV} {vs : List V} {i : Nat} {p : PV}, RlAll G ρ H ps vs → ps[i]? = some p → ∃ v, vs[i]? = some v ∧ Rl G ρ H p v
  | _, _, _, _, .nil, e => by simp at e
  | _, _, 0, _, .cons r _, e => by simp at e; subst e; exact ⟨_, rfl, r⟩
  | _, _, i + 1, p, .cons _ t, e => by
    obtain ⟨u, h1, h2⟩ := RlAll.get (i := i) (p := p) t (by simpa using e)
    exact ⟨u, by simpa using h1, h2⟩
theorem RlAll.append : ∀ {ps qs : List PV} {vs ws : List V}, RlAll G ρ H ps vs → RlAll G ρ H qs ws → RlAll G ρ H (ps ++ qs) (vs ++ ws)
  | _, _, _, _, .nil, s => s
  | _, _, _, _, .cons r t, s => .cons r (RlAll.append t s)
theorem RlAll.set {p : PV} {v : V} (r : Rl G ρ H p v) : ∀ {ps : List PV} {vs : List V} (i : Nat), RlAll G ρ H ps vs → RlAll G ρ H (ps.set i p) (vs.set i v)
  | _, _, _, .nil => .nil
  | _, _, 0, .cons _ t => .cons r t
  | _, _, i + 1, .cons q t => .cons q (RlAll.set r i t)
theorem RlAll.take : ∀ {ps : List PV} {vs : List V} (n : Nat), RlAll G ρ H ps vs → RlAll G ρ H (ps.take n) (vs.take n)
  | _, _, 0, _ => .nil
  | _, _, _ + 1, .nil => .nil
  | _, _, n + 1, .cons r t => .cons r (RlAll.take n t)
theorem RlAll.drop : ∀ {ps : List PV} {vs : List V} (n : Nat), RlAll G ρ H ps vs → RlAll G ρ H (ps.drop n) (vs.drop n)
  | _, _, 0, r => r
  | _, _, _ + 1, .nil => .nil
  | _, _, n + 1, .cons _ t => RlAll.drop n t
theorem RlAll.eraseIdx : ∀ {ps : List PV} {vs : List V} (n : Nat), RlAll G ρ H ps vs → RlAll G ρ H (ps.eraseIdx n) (vs.eraseIdx n)
  | _, _, _, .nil => .nil
  | _, _, 0, .cons _ t => t
  | _, _, n + 1, .cons r t => .cons r (RlAll.eraseIdx n t)
end
abbrev Xd (w : V) : HO := .xd [(("what" : Str), w)]
def Pst (G : DG) (E : XK) (ρ : List Addr) (H : Hp) {α : Type} (K : α → Store → List Addr → Hp → Prop) : Res α → Prop
  | .ok a st => ∀ ρ' H', Ext G.T ρ H ρ' H' → RlS G ρ' H' st → K a st ρ' H'
  | .exc c w st => ∀ ρ' H' ca d v, Ext G.T ρ H ρ' H' → RlS G ρ' H' st → G.mg c = some (.ref ca) → H' d = some (Xd v) → Out G.T ρ' d → Rl G ρ' H' w v → E (.ref ca) (some d) H'
  | .fail => False
inductive Fl where
  | nx | bk | ct | rt (v : PV)
abbrev KV (G : DG) (Q : VK) : PV → Store → List Addr → Hp → Prop := fun p _ ρ H => ∀ v, Rl G ρ H p v → Q v H
abbrev KB (Q : Bool → Hp → Prop) : Bool → Store → List Addr → Hp → Prop := fun b _ _ H => Q b H
abbrev KA (G : DG) (Q : List V → Hp → Prop) : List PV → Store → List Addr → Hp → Prop := fun ps _ ρ H => ∀ vs, RlAll G ρ H ps vs → Q vs H
def KF (G : DG) (D : Ends) (ρ : List Addr) (H : Hp) (σ : St) : Fl → Prop
  | .nx => D.nx σ H
  | .bk => D.bk σ H
  | .ct => D.ct σ H
  | .rt p => ∀ v, Rl G ρ H p v → D.rt v H
abbrev KS (G : DG) (D : Ends) : Fl × AE → Store → List Addr → Hp → Prop := fun r _ ρ H => ∀ σ, RlE G ρ H r.2 σ → KF G D ρ H σ r.1
section
variable {G : DG} {E : XK} {ρ ρ1 : List Addr} {H H1 : Hp} {α β : Type}
theorem Pst.base {K : α → Store → List Addr → Hp → Prop} {r : Res α} (e : Ext G.T ρ H ρ1 H1) (h : Pst G E ρ H K r) : Pst G E ρ1 H1 K r := by
  cases r with
  | ok p st => exact fun ρ' H' x => h ρ' H' (e.trans x)
  | exc c w st => exact fun ρ' H' ca d v x => h ρ' H' ca d v (e.trans x)
  | fail => exact h
theorem Pst.imp {K K' : α → Store → List Addr → Hp → Prop} {r : Res α} (h : Pst G E ρ H K r) (i : ∀ a st ρ1 H1, Ext G.T ρ H ρ1 H1 → RlS G ρ1 H1 st → K a st ρ1 H1 → K' a st ρ1 H1) : Pst G E ρ H K' r := by
  cases r with
  | ok p st => exact fun ρ' H' x s => i _ _ _ _ x s (h ρ' H' x s)
  | exc c w st => exact h
  | fail => exact h
theorem Pst.bind {K : β → Store → List Addr → Hp → Prop} {r : Res α} {k : α → Store → Res β} (h : Pst G E ρ H K (r.bind k)) :
    Pst G E ρ H (fun a st ρ1 H1 => Ext G.T ρ H ρ1 H1 ∧ RlS G ρ1 H1 st ∧ Pst G E ρ1 H1 K (k a st)) r := by
  cases r with
  | ok p st => exact fun ρ' H' x s => ⟨x, s, h.base x⟩
  | exc c w st => exact h
  | fail => exact h
theorem Pst.ret {K : α → Store → List Addr → Hp → Prop} {a : α} {st : Store} (hS : RlS G ρ H st) (h : Pst G E ρ H K (.ok a st)) : K a st ρ H := h ρ H Ext.refl hS
end
abbrev DE := AE → M PV
abbrev DB := AE → M Bool
abbrev DA := AE → M (List PV)
abbrev DS := AE → M (Fl × AE)
def Tv (G : DG) (E : XK) (f : DE) : TE := fun σ H Q => ∃ ρ aσ st, RlE G ρ H aσ σ ∧ RlS G ρ H st ∧ Pst G E ρ H (KV G Q) (f aσ st)
def Tb (G : DG) (E : XK) (f : DB) : TT := fun σ H Q => ∃ ρ aσ st, RlE G ρ H aσ σ ∧ RlS G ρ H st ∧ Pst G E ρ H (KB Q) (f aσ st)
def Ta (G : DG) (E : XK) (f : DA) : TA := fun σ H Q => ∃ ρ aσ st, RlE G ρ H aσ σ ∧ RlS G ρ H st ∧ Pst G E ρ H (KA G Q) (f aσ st)
def Ts (G : DG) (E : XK) (f : DS) : TS := fun D σ H => ∃ ρ aσ st, RlE G ρ H aσ σ ∧ RlS G ρ H st ∧ Pst G E ρ H (KS G D) (f aσ st)
def EV (X : Cx) (T : TR) (E : XK) (e : Expr) (f : DE) : Prop := PE X e (Tv (gOf X T) E f)
def EB (X : Cx) (T : TR) (E : XK) (e : Expr) (f : DB) : Prop := PT X e (Tb (gOf X T) E f)
def EA (X : Cx) (T : TR) (E : XK) (es : List Expr) (f : DA) : Prop := PA X es (Ta (gOf X T) E f)
def ES (X : Cx) (T : TR) (E : XK) (s : Stmt) (f : DS) : Prop := PS X s (Ts (gOf X T) E f)
def ESs (X : Cx) (T : TR) (E : XK) (ss : List Stmt) (f : DS) : Prop := PSs X ss (Ts (gOf X T) E f)
section
variable {X : Cx} {T : TR} {E : XK}
theorem pe_imp {e : Expr} {t t' : TE} (h : PE X e t) (i : ∀ σ H Q, t' σ H Q → t σ H Q) : PE X e t' := ⟨fun pins s σ H Q I q => h.run pins s σ H Q I (i σ H Q q)⟩
theorem pt_imp {e : Expr} {t t' : TT} (h : PT X e t) (i : ∀ σ H Q, t' σ H Q → t σ H Q) : PT X e t' := ⟨fun pins s σ H Q I q => h.run pins s σ H Q I (i σ H Q q)⟩
theorem pw_imp {e : Expr} {t t' : TT} (h : PW X e t) (i : ∀ σ H Q, t' σ H Q → t σ H Q) : PW X e t' := ⟨fun wh pins s σ H Q I q => h.run wh pins s σ H Q I (i σ H Q q)⟩
theorem pa_imp {es : List Expr} {t t' : TA} (h : PA X es t) (i : ∀ σ H Q, t' σ H Q → t σ H Q) : PA X es t' := ⟨fun pos pins s σ H Q I q => h.run pos pins s σ H Q I (i σ H Q q)⟩
theorem ps_imp {e : Stmt} {t t' : TS} (h : PS X e t) (i : ∀ D σ H, t' D σ H → t D σ H) : PS X e t' := ⟨fun pins s σ H D I q => h.run pins s σ H D I (i D σ H q)⟩
theorem pss_imp {e : List Stmt} {t t' : TS} (h : PSs X e t) (i : ∀ D σ H, t' D σ H → t D σ H) : PSs X e t' := ⟨fun pins s σ H D I q => h.run pins s σ H D I (i D σ H q)⟩
end
section
variable {G : DG} {E : XK} {ρ : List Addr} {H : Hp} {st : Store} {p : Addr} {o : HO}
theorem rd_upd {a : Addr} {u : HO} (hp : H p = none) (r : Rd H a u) : Rd (upd H p o) a u := by
  have ne : a ≠ p := fun e => by subst e; exact rd_not r hp
  rcases r with r | ⟨w, r⟩
  · exact .inl (by rw [upd_ne ne]; exact r)
  · exact .inr ⟨w, by rw [upd_ne ne]; exact r⟩
theorem nt_ne {H : Hp} {a D : Addr} {o : HO} (e : a ≠ D) (z : NT (upd H D o) a) : NT H a := by unfold NT at z; rwa [upd_ne e] at z
theorem nt_at {H : Hp} {D : Addr} {o : HO} (t : ∀ ps, o ≠ .tbl ps) (z : NT (upd H D o) D) : False := by
  rcases z with z | ⟨ps, z⟩
  · rw [upd_same] at z; cases z
  · rw [upd_same] at z; exact t ps (Option.some.inj z)
theorem nt_some {H : Hp} {a : Addr} {o : HO} (h : H a = some o) (t : ∀ ps, o ≠ .tbl ps := by intro ps z; cases z) : ¬ NT H a := fun z => by
  rcases z with z | ⟨ps, z⟩ <;> rw [h] at z
  · cases z
  · exact t ps (Option.some.inj z)
theorem ext_new {T : TR} (hp : H p = none) : Ext T ρ H ρ (upd H p o) :=
  ⟨List.prefix_refl _, fun _ _ r _ _ => rd_upd hp r, fun _ h => .inl h, fun a h => by
    by_cases e : a = p
    · rw [e]; exact .inl hp
    · unfold NT at h; rwa [upd_ne e] at h, fun a u _ h => by rw [upd_ne (ne_of_none h hp)]; exact h, fun a _ hn => upd_ne fun e => hn (by rw [e]; exact .inl hp)⟩
theorem keep_new (hp : H p = none) : ∀ b u, H b = some u → upd H p o b = some u := fun b u e => by rw [upd_ne (ne_of_none e hp)]; exact e
theorem RlS.notin (hS : RlS G ρ H st) (hp : H p = none) : p ∉ ρ := fun h => by
  obtain ⟨n, hn, e⟩ := List.mem_iff_getElem.mp h
  have e1 : ρ[n]? = some p := by rw [List.getElem?_eq_getElem hn, e]
  have hn2 : n < st.length := by rw [← hS.len]; exact hn
  have r := hS.at_ n st[n] p (List.getElem?_eq_getElem hn2) e1
  generalize st[n] = so at r
  cases r with
  | lst h _ => rw [hp] at h; cases h
  | dK h _ _ => rw [hp] at h; cases h
  | dT h _ _ => rw [hp] at h; cases h
  | ins _ h _ _ => rw [hp] at h; cases h
theorem nt_new {a : Addr} (hp : H p = none) (h : ¬ NT H a) : ¬ NT (upd H p o) a := fun z => h (nt_ne (fun e => h (by rw [e]; exact .inl hp)) z)
theorem RlS.new (hS : RlS G ρ H st) (hp : H p = none) : RlS G ρ (upd H p o) st :=
  ⟨hS.len, hS.nd, fun n u a h1 h2 => (hS.at_ n u a h1 h2).ext (ext_new hp) (keep_new hp a), hS.tabs.ext (keep_new hp), fun a ha => ⟨nt_new hp (hS.res a ha).1, (hS.res a ha).2⟩⟩
theorem RlS.out (hS : RlS G ρ H st) (hp : H p = none) : Out G.T ρ p := ⟨hS.notin hp, fun h => (hS.res p h).1 (.inl hp)⟩
theorem RlS.ref (hS : RlS G ρ H st) {n : Nat} {a : Addr} {so : SO} (h : ρ[n]? = some a) (hs : st[n]? = some so) : RlO G ρ H so a := hS.at_ n so a hs h
theorem post_val {Q : VK} {q : PV} {v : V} (h : Pst G E ρ H (KV G Q) (.ok q st)) (hS : RlS G ρ H st) (r : Rl G ρ H q v) : Q v H := h.ret hS v r
def NewT (H : Hp) (xs : List V) (Q : VK) : Prop := ∃ b, ∀ p o, H p = none → PlT o → Q (.ref p) (upd H p (mkT b o xs))
theorem post_tup {Q : VK} {l : List PV} {xs : List V} (h : Pst G E ρ H (KV G Q) (.ok (.tup l) st)) (hS : RlS G ρ H st) (r : RlAll G ρ H l xs) : NewT H xs Q :=
  ⟨isF l, fun p o hp hpl => h ρ _ (ext_new hp) (hS.new hp) _ (.tup (.inl ⟨o, hpl, upd_same⟩) (r.ext (ext_new hp)))⟩
theorem post_lst {Q : VK} {l : List PV} {xs : List V} (h : Pst G E ρ H (KV G Q) (.ok (.lst l) st)) (hS : RlS G ρ H st) (r : RlAll G ρ H l xs) (hp : H p = none) : Q (.ref p) (upd H p (.lst xs)) :=
  h ρ _ (ext_new hp) (hS.new hp) _ (.lst ⟨.inl upd_same, hS.out hp⟩ (r.ext (ext_new hp)))
theorem ext_push {T : TR} (hp : H p = none) : Ext T ρ H (ρ ++ [p]) (upd H p o) :=
  ⟨List.prefix_append _ _, fun _ _ r _ _ => rd_upd hp r, fun a h => by
    rcases List.mem_append.mp h with h | h
    · exact .inl h
    · rw [List.mem_singleton.mp h]; exact .inr (.inl hp), (ext_new (T := T) (ρ := ρ) hp).free, (ext_new (T := T) (ρ := ρ) hp).tups, (ext_new (T := T) (ρ := ρ) hp).rs⟩
theorem RlS.push {so : SO} (hS : RlS G ρ H st) (hp : H p = none) (r : RlO G (ρ ++ [p]) (upd H p o) so p) : RlS G (ρ ++ [p]) (upd H p o) (st ++ [so]) where
  len := by simp [hS.len]
  nd := by
    have h := hS.notin hp
    rw [List.nodup_append]
    exact ⟨hS.nd, by simp, fun a ha b hb => by rw [List.mem_singleton.mp hb]; rintro rfl; exact h ha⟩
  at_ := fun n u a h1 h2 => by
    by_cases hn : n < st.length
    · rw [List.getElem?_append_left hn] at h1
      rw [List.getElem?_append_left (by rw [hS.len]; exact hn)] at h2
      exact (hS.at_ n u a h1 h2).ext (ext_push hp) (keep_new hp a)
    · have hn2 : n < (st ++ [so]).length := (List.getElem?_eq_some_iff.mp h1).1
      have e : n = st.length := by simp at hn2; omega
      subst e
      rw [List.getElem?_append_right (Nat.le_refl _)] at h1
      rw [← hS.len, List.getElem?_append_right (Nat.le_refl _)] at h2
      simp at h1 h2
      subst h1 h2
      exact r
  tabs := hS.tabs.ext (keep_new hp)
  res := fun a ha => ⟨nt_new hp (hS.res a ha).1, fun h => by
    rcases List.mem_append.mp h with h | h
    · exact (hS.res a ha).2 h
    · rw [List.mem_singleton.mp h] at ha; exact (hS.res p ha).1 (.inl hp)⟩
theorem post_lstR {Q : VK} {l : List PV} {xs : List V} (h : Pst G E ρ H (KV G Q) (.ok (.ref st.length) (st ++ [.lst l]))) (hS : RlS G ρ H st) (r : RlAll G ρ H l xs) (hp : H p = none) : Q (.ref p) (upd H p (.lst xs)) :=
  h (ρ ++ [p]) _ (ext_push hp) (hS.push hp (.lst upd_same (r.ext (ext_push hp)))) _ (.ref (by rw [← hS.len]; simp))
theorem RlS.ne (hS : RlS G ρ H st) {n m : Nat} {a b : Addr} (h : ρ[n]? = some a) (h' : ρ[m]? = some b) (hn : n ≠ m) : a ≠ b := fun e => by
  subst e
  obtain ⟨h1, e1⟩ := List.getElem?_eq_some_iff.mp h
  obtain ⟨h2, e2⟩ := List.getElem?_eq_some_iff.mp h'
  exact hn ((List.getElem_inj hS.nd).mp (e1.trans e2.symm))
def Chg : HO → Prop
  | .lst _ => True
  | .dK _ => True
  | .dT _ => True
  | .ins _ _ _ => True
  | _ => False
theorem tu_chg {u : HO} (t : TU u) (c : Chg u) : False := by
  cases u <;> first | exact t | exact c
theorem ext_set {a : Addr} {w : HO} (hS : RlS G ρ H st) (ha : a ∈ ρ) (hh : H a = some w) (hc : Chg w) (ho : ∀ ps, o ≠ .tbl ps := by intro ps z; cases z) : Ext G.T ρ H ρ (upd H a o) :=
  ⟨List.prefix_refl _, fun b u r n _ => by
    have ne : b ≠ a := fun e => n.1 (e ▸ ha)
    rcases r with r | ⟨w, r⟩
    · exact .inl (by rw [upd_ne ne]; exact r)
    · exact .inr ⟨w, by rw [upd_ne ne]; exact r⟩, fun _ h => .inl h, fun b h => by
    by_cases e : b = a
    · rcases h with h | ⟨ps, h⟩
      · rw [e, upd_same] at h; cases h
      · rw [e, upd_same] at h; exact absurd (Option.some.inj h) (ho ps)
    · unfold NT at h; rwa [upd_ne e] at h, fun b u t h => by
    have ne : b ≠ a := fun e => by rw [e, hh] at h; cases h; exact tu_chg t hc
    rw [upd_ne ne]; exact h, fun b hb _ => upd_ne fun e => (hS.res b hb).2 (by rw [e]; exact ha)⟩
theorem tabs_set {T : List (Addr × Str)} {a : Addr} {u : HO} (t : LamX.Tabs T H) (h : H a = some u) (c : Chg u) : LamX.Tabs T (upd H a o) := fun q hq => by
  obtain ⟨ps, h1, h2, h3⟩ := t q hq
  have n1 : q.1 ≠ a := fun e => by rw [e, h] at h1; cases h1; exact c
  refine ⟨ps, by rw [upd_ne n1]; exact h1, h2, fun pos cv hc => ?_⟩
  obtain ⟨d, e1, e2⟩ := h3 pos cv hc
  have n2 : d ≠ a := fun e => by rw [e, h] at e2; cases e2; exact c
  exact ⟨d, e1, by rw [upd_ne n2]; exact e2⟩
theorem RlS.set {n : Nat} {a : Addr} {so so' : SO} {u : HO} (hS : RlS G ρ H st) (ha : ρ[n]? = some a) (hs : st[n]? = some so) (hu : H a = some u) (hc : Chg u) (r : RlO G ρ (upd H a o) so' a) : RlS G ρ (upd H a o) (st.set n so') := by
  have hm : a ∈ ρ := List.mem_of_getElem? ha
  have ho : ∀ ps, o ≠ .tbl ps := fun ps z => by
    subst z
    cases r with
    | lst h _ => rw [upd_same] at h; cases h
    | dK h _ _ => rw [upd_same] at h; cases h
    | dT h _ _ => rw [upd_same] at h; cases h
    | ins _ h _ _ => rw [upd_same] at h; cases h
  refine ⟨by rw [List.length_set]; exact hS.len, hS.nd, fun m w b h1 h2 => ?_, tabs_set hS.tabs hu hc, fun b hb => ⟨fun z => (hS.res b hb).1 (nt_ne (fun e => (hS.res b hb).2 (by rw [e]; exact hm)) z), (hS.res b hb).2⟩⟩
  by_cases e : n = m
  · subst e
    rw [ha] at h2; cases h2
    rw [List.getElem?_set_self (List.getElem?_eq_some_iff.mp hs).1] at h1
    cases h1
    exact r
  · rw [List.getElem?_set_ne e] at h1
    have nb : b ≠ a := (hS.ne ha h2 e).symm
    exact (hS.at_ m w b h1 h2).ext (ext_set hS hm hu hc ho) (fun z q => by rw [upd_ne nb]; exact q)
end
structure Mv (T : TR) (ρ : List Addr) (H : Hp) (T' : TR) (ρ' : List Addr) (H' : Hp) : Prop where
  pre : ρ <+: ρ'
  keep : ∀ a u, Rd H a u → Out T ρ a → (∀ ps, u ≠ .tbl ps) → Rd H' a u ∧ Out T' ρ' a
  tups : ∀ a u, TU u → H a = some u → H' a = some u
  er : ∀ q, T.err = some q → T'.err = some q
  lm : ∀ q, T.lam = some q → T'.lam = some q
section
variable {K : PySem.W.Frag} {mg : Str → Option Value} {T T' T2 : TR} {ρ ρ' ρ2 : List Addr} {H H' H2 : Hp}
theorem Ext.mv (e : Ext T ρ H ρ' H') : Mv T ρ H T ρ' H' := ⟨e.pre, fun a u r o t => ⟨e.keep a u r o t, ⟨fun h => by
  rcases e.new a h with z | z
  · exact o.1 z
  · exact rd_nt r t z, o.2⟩⟩, e.tups, fun _ h => h, fun _ h => h⟩
theorem Mv.trans (e : Mv T ρ H T' ρ' H') (f : Mv T' ρ' H' T2 ρ2 H2) : Mv T ρ H T2 ρ2 H2 :=
  ⟨e.pre.trans f.pre, fun a u r o t => let ⟨r1, o1⟩ := e.keep a u r o t; f.keep a u r1 o1 t, fun a u t h => f.tups a u t (e.tups a u t h), fun q h => f.er q (e.er q h), fun q h => f.lm q (e.lm q h)⟩
mutual
theorem Rl.mv (e : Mv T ρ H T' ρ' H') : ∀ {p : PV} {v : V}, Rl ⟨K, mg, T⟩ ρ H p v → Rl ⟨K, mg, T'⟩ ρ' H' p v
  | _, _, .non => .non
  | _, _, .bl b => .bl b
  | _, _, .int i => .int i
  | _, _, .str x => .str x
  | _, _, .ty n => .ty n
  | _, _, .tup h r => .tup (h.elim (fun ⟨o, p, h⟩ => .inl ⟨o, p, e.tups _ _ (mkT_tu _ _ _) h⟩) .inr) (RlAll.mv e r)
  | _, _, .ftp h r => .ftp (h.elim fun o h => ⟨o, h.1, e.tups _ _ trivial h.2⟩) (RlAll.mv e r)
  | _, _, .lst h r => .lst (e.keep _ _ h.1 h.2 (fun _ z => by cases z)) (RlAll.mv e r)
  | _, _, .dK h n k r => .dK (e.keep _ _ h n (fun _ z => by cases z)).1 (e.keep _ _ h n (fun _ z => by cases z)).2 k (RlAll.mv e r)
  | _, _, .dT h n k r => .dT (e.keep _ _ h n (fun _ z => by cases z)).1 (e.keep _ _ h n (fun _ z => by cases z)).2 k (RlAll.mv e r)
  | _, _, .ref h => .ref (by
      obtain ⟨t, rfl⟩ := e.pre
      rw [List.getElem?_append_left (List.getElem?_eq_some_iff.mp h).1]
      exact h)
  | _, _, .con h => .con h
  | _, _, .scr h r => .scr (h.imp (fun h => e.keep _ _ h.1 h.2 (fun _ z => by cases z)) id) (RlAll.mv e r)
  | _, _, .err q h n r => .err (e.er _ q) (e.keep _ _ h n (fun _ z => by cases z)).1 (e.keep _ _ h n (fun _ z => by cases z)).2 (Rl.mv e r)
  | _, _, .fnv q h r => .fnv (e.lm _ q) (e.tups _ _ trivial h) (RlAll.mv e r)
theorem RlAll.mv (e : Mv T ρ H T' ρ' H') : ∀ {ps : List PV} {vs : List V}, RlAll ⟨K, mg, T⟩ ρ H ps vs → RlAll ⟨K, mg, T'⟩ ρ' H' ps vs
  | _, _, .nil => .nil
  | _, _, .cons r t => .cons (Rl.mv e r) (RlAll.mv e t)
end
theorem RlE.mv (e : Mv T ρ H T' ρ' H') {aσ : AE} {σ : St} (h : RlE ⟨K, mg, T⟩ ρ H aσ σ) : RlE ⟨K, mg, T'⟩ ρ' H' aσ σ :=
  ⟨h.len, fun i p q => let ⟨v, a, b⟩ := h.at_ i p q; ⟨v, a, b.mv e⟩⟩
theorem RlO.mv {o : SO} {a : Addr} (e : Mv T ρ H T' ρ' H') (k : ∀ u, H a = some u → H' a = some u) (h : RlO ⟨K, mg, T⟩ ρ H o a) : RlO ⟨K, mg, T'⟩ ρ' H' o a := by
  cases h with
  | lst h r => exact .lst (k _ h) (r.mv e)
  | dK h x r => exact .dK (k _ h) x (r.mv e)
  | dT h x r => exact .dT (k _ h) x (r.mv e)
  | ins c h x r => exact .ins c (k _ h) x (r.mv e)
abbrev TR.add (T : TR) (D : Addr) : TR := ⟨T.tabs, D :: T.res, T.err, T.lam⟩
theorem mv_in {D : Addr} {o : HO} (hD : H D = none) : Mv T ρ H (T.add D) ρ (upd H D o) :=
  ⟨List.prefix_refl _, fun a u r n _ => ⟨rd_upd hD r, n.1, fun h => by
    rcases List.mem_cons.mp h with rfl | h
    · exact rd_not r hD
    · exact n.2 h⟩, fun a u _ h => by rw [upd_ne (ne_of_none h hD)]; exact h, fun _ h => h, fun _ h => h⟩
theorem mv_out {D : Addr} : Mv (T.add D) ρ H T ρ H := ⟨List.prefix_refl _, fun a u r n _ => ⟨r, n.1, fun h => n.2 (List.mem_cons_of_mem _ h)⟩, fun _ _ _ h => h, fun _ h => h, fun _ h => h⟩
theorem mv_outR {D : Addr} : Mv (T.add D) ρ H T (ρ ++ [D]) H := ⟨List.prefix_append _ _, fun a u r n _ => ⟨r, fun h => by
  rcases List.mem_append.mp h with h | h
  · exact n.1 h
  · rw [List.mem_singleton.mp h] at n; exact n.2 List.mem_cons_self, fun h => n.2 (List.mem_cons_of_mem _ h)⟩, fun _ _ _ h => h, fun _ h => h, fun _ h => h⟩
theorem rls_in {D : Addr} {o : HO} {st : Store} (h : RlS ⟨K, mg, T⟩ ρ H st) (hD : H D = none) (ho : ∀ ps, o ≠ .tbl ps := by intro ps z; cases z) : RlS ⟨K, mg, T.add D⟩ ρ (upd H D o) st :=
  ⟨h.len, h.nd, fun n w a h1 h2 => (h.at_ n w a h1 h2).mv (mv_in hD) (keep_new hD a), h.tabs.ext (keep_new hD), fun a ha => by
    rcases List.mem_cons.mp ha with rfl | ha
    · exact ⟨nt_at ho, h.notin hD⟩
    · exact ⟨nt_new hD (h.res a ha).1, (h.res a ha).2⟩⟩
theorem rls_out {D : Addr} {st : Store} (h : RlS ⟨K, mg, T.add D⟩ ρ H st) : RlS ⟨K, mg, T⟩ ρ H st :=
  ⟨h.len, h.nd, fun n w a h1 h2 => (h.at_ n w a h1 h2).mv mv_out (fun _ q => q), h.tabs, fun a ha => h.res a (List.mem_cons_of_mem _ ha)⟩
theorem rls_outO {D : Addr} {st : Store} {so : SO} (h : RlS ⟨K, mg, T.add D⟩ ρ H st) (r : RlO ⟨K, mg, T⟩ (ρ ++ [D]) H so D) (hn : D ∉ T.res) : RlS ⟨K, mg, T⟩ (ρ ++ [D]) H (st ++ [so]) where
  len := by simp [h.len]
  nd := by
    have z := (h.res D List.mem_cons_self).2
    rw [List.nodup_append]
    exact ⟨h.nd, by simp, fun a ha b hb => by rw [List.mem_singleton.mp hb]; rintro rfl; exact z ha⟩
  at_ := fun n u a h1 h2 => by
    by_cases hh : n < st.length
    · rw [List.getElem?_append_left hh] at h1
      rw [List.getElem?_append_left (by rw [h.len]; exact hh)] at h2
      exact (h.at_ n u a h1 h2).mv mv_outR (fun _ q => q)
    · have hn2 : n < (st ++ [so]).length := (List.getElem?_eq_some_iff.mp h1).1
      have e : n = st.length := by simp at hn2; omega
      subst e
      rw [List.getElem?_append_right (Nat.le_refl _)] at h1
      rw [← h.len, List.getElem?_append_right (Nat.le_refl _)] at h2
      simp at h1 h2
      subst h1 h2
      exact r
  tabs := h.tabs
  res := fun a ha => ⟨(h.res a (List.mem_cons_of_mem _ ha)).1, fun hm => by
    rcases List.mem_append.mp hm with hm | hm
    · exact (h.res a (List.mem_cons_of_mem _ ha)).2 hm
    · rw [List.mem_singleton.mp hm] at ha; exact hn ha⟩
theorem rls_outR {D : Addr} {st : Store} {l : List PV} {xs : List V} (h : RlS ⟨K, mg, T.add D⟩ ρ H st) (hD : H D = some (.lst xs)) (r : RlAll ⟨K, mg, T.add D⟩ ρ H l xs) (hn : D ∉ T.res) : RlS ⟨K, mg, T⟩ (ρ ++ [D]) H (st ++ [.lst l]) :=
  rls_outO h (.lst hD (r.mv mv_outR)) hn
theorem mv_grow {D : Addr} {o : HO} {u : HO} (hD : H D = some u) (hc : Chg u) (hr : D ∈ T.res) : Mv T ρ H T ρ (upd H D o) :=
  ⟨List.prefix_refl _, fun b w r n _ => by
    have ne : b ≠ D := fun e => n.2 (e ▸ hr)
    rcases r with r | ⟨z, r⟩
    · exact ⟨.inl (by rw [upd_ne ne]; exact r), n⟩
    · exact ⟨.inr ⟨z, by rw [upd_ne ne]; exact r⟩, n⟩, fun b u t h => by
    have ne : b ≠ D := fun e => by rw [e, hD] at h; cases h; exact tu_chg t hc
    rw [upd_ne ne]; exact h, fun _ h => h, fun _ h => h⟩
theorem rls_grow {D : Addr} {o : HO} {u : HO} {st : Store} (h : RlS ⟨K, mg, T⟩ ρ H st) (hD : H D = some u) (hc : Chg u) (hr : D ∈ T.res) (ho : ∀ ps, o ≠ .tbl ps := by intro ps z; cases z) : RlS ⟨K, mg, T⟩ ρ (upd H D o) st :=
  ⟨h.len, h.nd, fun n w a h1 h2 => (h.at_ n w a h1 h2).mv (mv_grow hD hc hr) (fun z q => by
    have ne : a ≠ D := fun e => (h.res D hr).2 (e ▸ List.mem_of_getElem? h2)
    rw [upd_ne ne]; exact q), tabs_set h.tabs hD hc, fun a ha => ⟨fun z => by
    by_cases e : a = D
    · subst e; exact nt_at ho z
    · exact (h.res a ha).1 (nt_ne e z), (h.res a ha).2⟩⟩
end
end DN
namespace DN
open PySem PySem.Spec PyProof.Rows L2
section
variable {X : Cx} {H : Hp} {σ : St}
theorem mkT_ok {P : Program} {w : World} {h : Heap} {p : Addr} {o : Obj} {xs : List V} (b : Bool) (e : h.get? p = some o) (r : ObjOk P w H h p (.tup xs)) : ObjOk P w H h p (mkT b o xs) := by
  cases b
  · exact r
  · exact ⟨e, r⟩
theorem plT_new (its : Array Value) (n : Nat) : PlT { cls := .type "tuple", data := .seq its n } := ⟨rfl, rfl⟩
def tTupF (t : TA) : TE := fun σ H Q => t σ H fun xs H1 => xs.length ≤ sizeLine ∧ NewT H1 xs Q
theorem pe_tupF {es : List Expr} {t : TA} {pos : Pos} {x1} (h : PA X es t) : PE X (.Tuple es x1 pos) (tTupF t) := by
  refine ⟨fun pins s σ H Q I hq => ?_⟩
  refine wpAny_Tuple_spliced (thn (h.run pos pins s σ H _ I hq) fun us s1 ⟨xs, H1, I1, r, z, b, q⟩ => ⟨by rw [← r.length]; exact z, ?_⟩)
  have hf : H1 s1.heap.objs.size = none := I1.hok.fresh (Nat.le_refl _)
  refine ⟨.ref s1.heap.objs.size, _, I1.laid (t' := s1.toks) (fun b u e => Heap.get?_push_of_some _ e) (Nat.le_refl _) (mkT_ok b (Heap.get?_push_size _ rfl) ?_), rfl, q _ _ hf (plT_new _ _)⟩
  exact ⟨z, us, r, ⟨_, Heap.get?_push_size _ rfl, rfl, _, rfl⟩⟩
def rCatF (K : PySem.W.Frag) : R2 := fun x y H Q => ∃ a b xs ys, x = .ref a ∧ y = .ref b ∧ SqT K H a xs ∧ SqT K H b ys ∧ xs.length + ys.length ≤ sizeLine ∧
  (xs = [] → Q (.ref b) H) ∧ (xs ≠ [] → ys = [] → Q (.ref a) H) ∧ (xs ≠ [] → ys ≠ [] → NewT H (xs ++ ys) Q)
theorem op_catF : OpR X (binaryOp .Add) (rCatF X.K) := by
  intro pins s σ H x y v u Q I rx ry h
  obtain ⟨a, b, xs, ys, rfl, rfl, ha, hb, hz, q0, q1, q2⟩ := h
  by_cases hx : xs = []
  · exact op_catA pins s σ H _ _ v u Q I rx ry ⟨a, b, xs, ys, rfl, rfl, ha, hb, hz, q0, q1, fun z => absurd hx z⟩
  by_cases hy : ys = []
  · exact op_catA pins s σ H _ _ v u Q I rx ry ⟨a, b, xs, ys, rfl, rfl, ha, hb, hz, q0, q1, fun _ z => absurd hy z⟩
  cases rx
  cases ry
  obtain ⟨its, r1, p1, _⟩ := I.tuple ha
  obtain ⟨its2, r2, p2, _⟩ := I.tuple hb
  obtain ⟨k, q⟩ := q2 hx hy
  refine HT.cat_tup p1 p2 (fun z => hx (r1.nil_iff.mp z)) (fun z => absurd (r2.nil_iff.mp z) hy) (fun z => ?_) (by rw [← r1.length, ← r2.length]; exact hz)
  refine ⟨.ref s.heap.objs.size, _, I.laid (t' := s.toks) (fun b ob q => Heap.get?_push_of_some _ q) (Nat.le_refl _) (mkT_ok k (Heap.get?_push_size _ rfl) ?_), rfl, q _ _ (I.hok.fresh (Nat.le_refl _)) (plT_new _ _)⟩
  exact ⟨by rw [List.length_append]; exact hz, _, r1.append r2, IsTup.new _ _⟩
def rTupF (K : PySem.W.Frag) : List V → Hp → VK → Prop := fun xs H Q => ∃ p ys, xs = [.ref p] ∧ ((SqL K H p ys ∧ NewT H ys Q) ∨ (SqT K H p ys ∧ Q (.ref p) H))
theorem call_tupleF : CallR X (.type "tuple") (rTupF X.K) := by
  intro pins s σ H xs us Q I r h
  obtain ⟨p, ys, rfl, h⟩ := h
  rcases h with ⟨hq, b, q⟩ | h
  · obtain ⟨u, rfl, rx⟩ := vals1 r
    cases rx
    obtain ⟨its, r', pl, hz⟩ := I.list hq
    have hlen := r'.length
    refine call_tuple_list pl.isList (fun h' kp => ?_) (by simp only [List.size_toArray] <;> omega)
    have I1 : Inv X pins σ H { s with heap := h' } := I.kept (t' := s.toks) kp
    have I2 := I1.laid (h' := h'.push { cls := .type "tuple", data := .seq its.toArray }) (t' := s.toks) (fun b o e => Heap.get?_push_of_some _ e) (Nat.le_refl _) (mkT_ok b (Heap.get?_push_size _ rfl) (show ObjOk X.prog X.w _ _ _ (.tup ys) from ⟨hz, its, r', IsTup.new _ _⟩))
    exact ⟨.ref h'.objs.size, _, I2, rfl, q _ _ (I1.hok.fresh (Nat.le_refl _)) (plT_new _ _)⟩
  · exact call_tuple_of pins s σ H _ us Q I r ⟨p, ys, rfl, .inr h⟩
def rSlF (K : PySem.W.Frag) : V → Option Int → Option Int → Hp → VK → Prop := fun x lo hi H Q => ∃ a xs, x = .ref a ∧ SqT K H a xs ∧
  (HT.sIx xs.length 0 lo = 0 ∧ HT.sIx xs.length xs.length hi = xs.length → Q (.ref a) H) ∧ (¬ (HT.sIx xs.length 0 lo = 0 ∧ HT.sIx xs.length xs.length hi = xs.length) → NewT H (cutV xs lo hi) Q)
theorem sl_tupF : SlR X (rSlF X.K) := by
  intro pins s σ H x v vl vu lo hi sl Q I rx hs pl pu h
  obtain ⟨a, xs, rfl, hx, q1, q2⟩ := h
  by_cases hw : HT.sIx xs.length 0 lo = 0 ∧ HT.sIx xs.length xs.length hi = xs.length
  · exact sl_tupA pins s σ H _ v vl vu lo hi sl Q I rx hs pl pu ⟨a, xs, rfl, hx, q1, fun z => absurd hw z⟩
  obtain ⟨k, q⟩ := q2 hw
  cases rx
  obtain ⟨its, r, ht, hz⟩ := I.tuple hx
  have hlen : its.toArray.size = xs.length := by rw [List.size_toArray]; exact r.length.symm
  refine ⟨"tuple", _, PyProof.Rows.slot_tuple_getitem.lookup, ht.typeIs, ?_⟩
  refine HT.getItem_tuple_cut ht hs pl pu (by rw [hlen]; exact hw) ?_ (by rw [hlen]; exact hz)
  rw [hlen]
  refine ⟨.ref s.heap.objs.size, _, I.laid (t' := s.toks) (fun b ob q => Heap.get?_push_of_some _ q) (Nat.le_refl _) (mkT_ok k (Heap.get?_push_size _ rfl) ?_), rfl, q _ _ (I.hok.fresh (Nat.le_refl _)) (plT_new _ _)⟩
  exact ⟨Nat.le_trans (cutV_length xs lo hi) hz, _, (r.drop (HT.sIx xs.length 0 lo)).take (HT.sIx xs.length xs.length hi - HT.sIx xs.length 0 lo), IsTup.new _ _⟩
end
end DN
namespace DN
open PySem PySem.Spec PyProof.Rows L2
def dVar (i : Nat) : DE := fun σ st => match σ[i]? with
  | some (some v) => .ok v st
  | _ => .fail
def dC (v : PV) : DE := fun _ st => .ok v st
def d1 (d : PV → M PV) (f : DE) : DE := fun σ st => (f σ st).bind d
def d2 (d : PV → PV → M PV) (f g : DE) : DE := fun σ st => (f σ st).bind fun x st => (g σ st).bind fun y st => d x y st
def dA0 : DA := fun _ st => .ok [] st
def dAc (f : DE) (r : DA) : DA := fun σ st => (f σ st).bind fun x st => (r σ st).bind fun xs st => .ok (x :: xs) st
def dAl (d : List PV → M PV) (f : DA) : DE := fun σ st => (f σ st).bind d
def tB (p : PV) : M Bool := fun st => match p with
  | .bl b => .ok b st
  | _ => .fail
def bVal (f : DE) : DB := fun σ st => (f σ st).bind tB
def bNot (f : DB) : DB := fun σ st => (f σ st).bind fun b st => .ok (!b) st
def bAnd (f g : DB) : DB := fun σ st => (f σ st).bind fun b st => if b then g σ st else .ok false st
def bOr (f g : DB) : DB := fun σ st => (f σ st).bind fun b st => if b then .ok true st else g σ st
def dIf (c : DB) (f g : DE) : DE := fun σ st => (c σ st).bind fun b st => if b then f σ st else g σ st
def dAnd (f g : DE) : DE := fun σ st => (f σ st).bind fun p st => (tB p st).bind fun b st => if b then g σ st else .ok (.bl false) st
def dOr (f g : DE) : DE := fun σ st => (f σ st).bind fun p st => (tB p st).bind fun b st => if b then .ok (.bl true) st else g σ st
def dNot (f : DE) : DE := fun σ st => (f σ st).bind fun p st => (tB p st).bind fun b st => .ok (.bl (!b)) st
abbrev SZ : Nat := 16777216
theorem SZ_eq : sizeLine = SZ := sizeLine_eq
def asL (p : PV) (st : Store) : Option (List PV) := match p with
  | .lst l => some l
  | .ref n => (match st[n]? with
    | some (.lst l) => some l
    | _ => none)
  | _ => none
def asR (p : PV) (st : Store) : Option (List PV) := match p with
  | .scr l => some l
  | p => asL p st
section
variable {X : Cx} {T : TR} {E : XK} {G : DG} {ρ : List Addr} {H : Hp} {σ : St} {aσ : AE} {st : Store}
def Adq1 (G : DG) (E : XK) (r : V → Hp → VK → Prop) (d : PV → M PV) : Prop := ∀ ρ H st x v Q, RlS G ρ H st → Rl G ρ H x v → Pst G E ρ H (KV G Q) (d x st) → r v H Q
def Adq2 (G : DG) (E : XK) (r : R2) (d : PV → PV → M PV) : Prop := ∀ ρ H st x y v u Q, RlS G ρ H st → Rl G ρ H x v → Rl G ρ H y u → Pst G E ρ H (KV G Q) (d x y st) → r v u H Q
def AdqL (G : DG) (E : XK) (r : List V → Hp → VK → Prop) (d : List PV → M PV) : Prop := ∀ ρ H st xs vs Q, RlS G ρ H st → RlAll G ρ H xs vs → Pst G E ρ H (KV G Q) (d xs st) → r vs H Q
theorem tv_bind {β : Type} {f : DE} {k : PV → Store → Res β} {K : β → Store → List Addr → Hp → Prop} {W : VK} (hE : RlE G ρ H aσ σ) (hS : RlS G ρ H st) (h : Pst G E ρ H K ((f aσ st).bind k))
    (q : ∀ ρ1 H1 x v st1, Ext G.T ρ H ρ1 H1 → RlS G ρ1 H1 st1 → RlE G ρ1 H1 aσ σ → Rl G ρ1 H1 x v → Pst G E ρ1 H1 K (k x st1) → W v H1) : Tv G E f σ H W :=
  ⟨ρ, aσ, st, hE, hS, h.bind.imp fun x st1 ρ1 H1 _ _ z v r => q ρ1 H1 x v st1 z.1 z.2.1 (hE.ext z.1) r z.2.2⟩
theorem tb_bind {β : Type} {f : DB} {k : Bool → Store → Res β} {K : β → Store → List Addr → Hp → Prop} {W : Bool → Hp → Prop} (hE : RlE G ρ H aσ σ) (hS : RlS G ρ H st) (h : Pst G E ρ H K ((f aσ st).bind k))
    (q : ∀ ρ1 H1 b st1, Ext G.T ρ H ρ1 H1 → RlS G ρ1 H1 st1 → RlE G ρ1 H1 aσ σ → Pst G E ρ1 H1 K (k b st1) → W b H1) : Tb G E f σ H W :=
  ⟨ρ, aσ, st, hE, hS, h.bind.imp fun x st1 ρ1 H1 _ _ z => q ρ1 H1 x st1 z.1 z.2.1 (hE.ext z.1) z.2.2⟩
theorem ta_bind {β : Type} {f : DA} {k : List PV → Store → Res β} {K : β → Store → List Addr → Hp → Prop} {W : List V → Hp → Prop} (hE : RlE G ρ H aσ σ) (hS : RlS G ρ H st) (h : Pst G E ρ H K ((f aσ st).bind k))
    (q : ∀ ρ1 H1 xs vs st1, Ext G.T ρ H ρ1 H1 → RlS G ρ1 H1 st1 → RlE G ρ1 H1 aσ σ → RlAll G ρ1 H1 xs vs → Pst G E ρ1 H1 K (k xs st1) → W vs H1) : Ta G E f σ H W :=
  ⟨ρ, aσ, st, hE, hS, h.bind.imp fun x st1 ρ1 H1 _ _ z v r => q ρ1 H1 x v st1 z.1 z.2.1 (hE.ext z.1) r z.2.2⟩
theorem tv1 {f : DE} {d : PV → M PV} {r : V → Hp → VK → Prop} {Q : VK} (ad : Adq1 G E r d) (h : Tv G E (d1 d f) σ H Q) : Tv G E f σ H fun v H1 => r v H1 Q := by
  obtain ⟨ρ, aσ, st, hE, hS, h⟩ := h
  exact tv_bind hE hS h fun ρ1 H1 x v st1 _ s _ r h => ad ρ1 H1 st1 x v Q s r h
theorem tv2 {f g : DE} {d : PV → PV → M PV} {r : R2} {Q : VK} (ad : Adq2 G E r d) (h : Tv G E (d2 d f g) σ H Q) : Tv G E f σ H fun v H1 => Tv G E g σ H1 fun u H2 => r v u H2 Q := by
  obtain ⟨ρ, aσ, st, hE, hS, h⟩ := h
  exact tv_bind hE hS h fun ρ1 H1 x v st1 _ s e r h => tv_bind e s h fun ρ2 H2 y u st2 x2 s2 _ r2 h => ad ρ2 H2 st2 x y v u Q s2 (r.ext x2) r2 h
theorem tvl {f : DA} {d : List PV → M PV} {r : List V → Hp → VK → Prop} {Q : VK} (ad : AdqL G E r d) (h : Tv G E (dAl d f) σ H Q) : Ta G E f σ H fun vs H1 => r vs H1 Q := by
  obtain ⟨ρ, aσ, st, hE, hS, h⟩ := h
  exact ta_bind hE hS h fun ρ1 H1 x v st1 _ s _ r h => ad ρ1 H1 st1 x v Q s r h
theorem ev_name (i : Nat) {x : Str} {pos : Pos} (hN : X.N[i]? = some x := by rfl) (hv : Vis X.env.scope x := by first | exact Or.inl rfl | exact Or.inr (Or.inl rfl) | exact Or.inr (Or.inr rfl)) (hd : (x == ("__debug__" : Str)) = false := by decide)
    (hcd : (x == ("__classdict__" : Str)) = false := by decide) : EV X T E (.Name x pos) (dVar i) := pe_imp (pe_var hN hv hd hcd) fun σ H Q h => by
  obtain ⟨ρ, aσ, st, hE, hS, h⟩ := h
  unfold dVar at h
  split at h
  · rename_i v e
    obtain ⟨u, e2, r⟩ := hE.at_ i v e
    exact ⟨u, e2, post_val h hS r⟩
  · exact h.elim
theorem ev_c {e : Expr} {p : PV} {v : V} (h : PE X e (tC v)) (r : ∀ ρ H, Rl (gOf X T) ρ H p v) : EV X T E e (dC p) := pe_imp h fun σ H Q h => by
  obtain ⟨ρ, aσ, st, hE, hS, h⟩ := h
  exact post_val h hS (r ρ H)
theorem ev_int {i j pos} : EV X T E (.Constant (.int i) j pos) (dC (.int i)) := ev_c pe_int fun _ _ => .int i
theorem ev_bl {b j pos} : EV X T E (.Constant (.bool b) j pos) (dC (.bl b)) := ev_c pe_bl fun _ _ => .bl b
theorem ev_non {j pos} : EV X T E (.Constant .none j pos) (dC .non) := ev_c pe_non fun _ _ => .non
theorem ev_str {x j pos} : EV X T E (.Constant (.str x) j pos) (dC (.str x)) := ev_c pe_str fun _ _ => .str x
theorem ev_glob {x : Str} {a : Addr} {pos : Pos} (hg : Gl X x) (hm : X.mg x = some (.ref a)) (hd : (x == ("__debug__" : Str)) = false := by decide) : EV X T E (.Name x pos) (dC (.con x)) := ev_c (pe_glob (v := .ref a) hg hm rfl hd) fun _ _ => .con hm
theorem ev_gint {x : Str} {i : Int} {pos : Pos} (hg : Gl X x) (hm : ∃ t, X.mg x = some (.int i t)) (hd : (x == ("__debug__" : Str)) = false := by decide) : EV X T E (.Name x pos) (dC (.int i)) := by
  obtain ⟨t, hm⟩ := hm
  exact ev_c (pe_glob (v := .int i) hg hm ⟨t, rfl⟩ hd) fun _ _ => .int i
theorem ev_bty {x : Str} {n : String} {pos : Pos} (hg : Gl X x) (hm : X.mg x = none) (hv : bootBuiltins x = some (.type n)) (hn : x ≠ "__name__" := by decide) (hd : (x == ("__debug__" : Str)) = false := by decide) : EV X T E (.Name x pos) (dC (.ty n)) :=
  ev_c (pe_bltn (v := .ty n) hg hm hv rfl hn hd) fun _ _ => .ty n
variable {a b c : Expr} {fa fb fc : DE} {pos : Pos}
theorem ev_op {op : Operator} {r : R2} {d : PV → PV → M PV} (ho : OpR X (binaryOp op) r) (ad : Adq2 (gOf X T) E r d) (ha : EV X T E a fa) (hb : EV X T E b fb) : EV X T E (.BinOp a op b pos) (d2 d fa fb) :=
  pe_imp (pe_op ho ha hb) fun _ _ _ h => tv2 ad h
theorem ev_un {op : UnaryOp} {r : V → Hp → VK → Prop} {d : PV → M PV} (ho : UnR X (unaryOp op) r) (ad : Adq1 (gOf X T) E r d) (ha : EV X T E a fa) : EV X T E (.UnaryOp op a pos) (d1 d fa) :=
  pe_imp (pe_un ho ha) fun _ _ _ h => tv1 ad h
theorem ev_cmp {op : CmpOp} {r : R2} {d : PV → PV → M PV} (ho : OpR X (compareOp op) r) (ad : Adq2 (gOf X T) E r d) (hm : behindInMarks op b = false) (ha : EV X T E a fa) (hb : EV X T E b fb) : EV X T E (.Compare a [op] [b] pos) (d2 d fa fb) :=
  pe_imp (pe_cmpR ho ha hb hm) fun _ _ _ h => tv2 ad h
theorem OpR.imp {f : Value → Value → Sem Value} {r r' : R2} (h : OpR X f r) (i : ∀ x y H Q, r' x y H Q → r x y H Q) : OpR X f r' := fun pins s σ H x y v u Q I rx ry q => h pins s σ H x y v u Q I rx ry (i x y H Q q)
end
def pAdd (x y : PV) : M PV := fun st => match x, y with
  | .int i, .int j => .ok (.int (i + j)) st
  | .str x, .str y => if x.length + y.length ≤ SZ then .ok (.str (x ++ y)) st else .fail
  | .tup x, .tup y => if x.length + y.length ≤ SZ then .ok (.tup (x ++ y)) st else .fail
  | x, y => match asL x st, asL y st with
    | some x, some y => if x.length + y.length ≤ SZ then .ok (.lst (x ++ y)) st else .fail
    | _, _ => .fail
def pSub (x y : PV) : M PV := fun st => match x, y with
  | .int i, .int j => .ok (.int (i - j)) st
  | _, _ => .fail
abbrev B64 : Int := 18446744073709551616
abbrev B200 : Int := 1606938044258990275541962092341162602522202993782792835301376
def pMul (x y : PV) : M PV := fun st => match x, y with
  | .int i, .int j => if (-B64 < i ∧ i < B64) ∨ (-B64 < j ∧ j < B64) then .ok (.int (i * j)) st else .fail
  | _, _ => .fail
def pDiv (x y : PV) : M PV := fun st => match x, y with
  | .int i, .int j => if 0 < j ∧ j < B200 then .ok (.int (i / j)) st else .fail
  | _, _ => .fail
def pMod (x y : PV) : M PV := fun st => match x, y with
  | .int i, .int j => if 0 < j then .ok (.int (i % j)) st else .fail
  | _, _ => .fail
def pPow (x y : PV) : M PV := fun st => match x, y with
  | .int i, .int j => if 0 ≤ j ∧ j ≤ 1000 ∧ -B64 < i ∧ i < B64 then .ok (.int (i ^ j.toNat)) st else .fail
  | _, _ => .fail
def pNeg (x : PV) : M PV := fun st => match x with
  | .int i => .ok (.int (-i)) st
  | _ => .fail
section
variable {X : Cx} {T : TR} {E : XK} {G : DG} {ρ : List Addr} {H : Hp} {σ : St} {aσ : AE} {st : Store}
theorem asL_rl {p : PV} {v : V} {l : List PV} (hS : RlS G ρ H st) (r : Rl G ρ H p v) (h : asL p st = some l) : ∃ a xs, v = .ref a ∧ Rd H a (.lst xs) ∧ RlAll G ρ H l xs := by
  unfold asL at h
  split at h
  · cases h
    cases r with
    | lst q ra => exact ⟨_, _, rfl, q.1, ra⟩
  · split at h
    · rename_i n _ l' e
      cases h
      cases r with
      | ref q =>
        cases hS.ref q e with
        | lst h r => exact ⟨_, _, rfl, .inl h, r⟩
    · cases h
  · cases h
theorem asR_rl {p : PV} {v : V} {l : List PV} (hS : RlS G ρ H st) (r : Rl G ρ H p v) (h : asR p st = some l) : ∃ a xs, v = .ref a ∧ SqL G.K H a xs ∧ RlAll G ρ H l xs := by
  unfold asR at h
  split at h
  · cases h
    cases r with
    | scr q ra => exact ⟨_, _, rfl, q.elim (fun q => .inl q.1) fun q => q H, ra⟩
  · obtain ⟨a, xs, e, rd, ra⟩ := asL_rl hS r h
    exact ⟨a, xs, e, .inl rd, ra⟩
theorem inv_lst {pins : List (Addr × Obj)} {s : Shared} {a : Addr} {xs : List V} (I : Inv X pins σ H s) (r : Rd H a (.lst xs)) : xs.length ≤ sizeLine ∧ ∃ (its : List Value) (n : Nat), Vals xs its ∧ xs.length = its.length ∧ s.heap.get? a = some { cls := .type "list", data := .seq its.toArray n } := by
  obtain ⟨z, its, n, r, e⟩ := (r.ok I.hok : ObjOk X.prog X.w H s.heap a (.lst xs))
  exact ⟨z, its, n, r, r.length, e⟩
def rCatL : R2 := fun x y H Q => ∃ l b xs zs, x = .ref l ∧ y = .ref b ∧ Rd H l (.lst xs) ∧ Rd H b (.lst zs) ∧ xs.length + zs.length ≤ sizeLine ∧ ∀ p, H p = none → Q (.ref p) (upd H p (.lst (xs ++ zs)))
theorem op_catL : OpR X (binaryOp .Add) rCatL := by
  intro pins s σ H x y v u Q I rx ry h
  obtain ⟨l, b, xs, zs, rfl, rfl, hH, hB, hz, q⟩ := h
  cases rx
  cases ry
  obtain ⟨z, its, n, r, hl, e⟩ := inv_lst I hH
  obtain ⟨z2, its2, n2, r2, hl2, e2⟩ := inv_lst I hB
  refine PySem.P.add_list e e2 ?_ (by rw [List.size_toArray, List.size_toArray]; omega)
  have ea : its.toArray ++ its2.toArray = (its ++ its2).toArray := by simp
  rw [ea]
  exact ⟨.ref _, _, I.lnew (t' := s.toks) (r.append r2) (by rw [List.length_append]; omega), rfl, q _ I.fresh⟩
def rAddAll (K : PySem.W.Frag) : R2 := fun x y H Q => (((rI0 fun i j => .int (i + j)) x y H Q ∨ (∃ i j, x = .str i ∧ y = .str j ∧ i.length + j.length ≤ sizeLine ∧ Q (.str (i ++ j)) H)) ∨ rCatF K x y H Q) ∨ rCatL x y H Q
theorem op_addAll : OpR X (binaryOp .Add) (rAddAll X.K) := ((op_add.or op_add_str).or op_catF).or op_catL
theorem ad_add : Adq2 G E (rAddAll G.K) pAdd := fun ρ H st x y v u Q hS rx ry h => by
  unfold pAdd at h
  split at h
  · rename_i i j
    cases rx; cases ry
    exact .inl (.inl (.inl ⟨_, _, rfl, rfl, post_val h hS (.int _)⟩))
  · split at h
    · rename_i hz
      cases rx; cases ry
      exact .inl (.inl (.inr ⟨_, _, rfl, rfl, by rw [SZ_eq]; exact hz, post_val h hS (.str _)⟩))
    · exact h.elim
  · split at h
    · rename_i x y hz
      cases rx with
      | tup hx ax =>
        cases ry with
        | tup hy ay =>
          refine .inl (.inr ⟨_, _, _, _, rfl, rfl, hx.sq, hy.sq, by rw [SZ_eq, ← ax.length, ← ay.length]; exact hz, fun e => ?_, fun _ e => ?_, fun _ _ => post_tup h hS (ax.append ay)⟩)
          · subst e
            cases ax
            exact post_val h hS (.tup hy ay)
          · subst e
            cases ay
            rw [List.append_nil] at h
            exact post_val h hS (.tup hx ax)
    · exact h.elim
  · split at h
    · rename_i e1 e2
      split at h
      · rename_i hz
        obtain ⟨a, xs, rfl, h1, r1⟩ := asL_rl hS rx e1
        obtain ⟨b, ys, rfl, h2, r2⟩ := asL_rl hS ry e2
        exact .inr ⟨_, _, _, _, rfl, rfl, h1, h2, by rw [SZ_eq, ← r1.length, ← r2.length]; exact hz, fun p hp => post_lst h hS (r1.append r2) hp⟩
      · exact h.elim
    · exact h.elim
theorem ad_sub : Adq2 G E (rI0 fun i j => .int (i - j)) pSub := fun ρ H st x y v u Q hS rx ry h => by
  unfold pSub at h
  split at h
  · cases rx; cases ry
    exact ⟨_, _, rfl, rfl, post_val h hS (.int _)⟩
  · exact h.elim
theorem ad_mul : Adq2 G E (rI CMul fun i j => .int (i * j)) pMul := fun ρ H st x y v u Q hS rx ry h => by
  unfold pMul at h
  split at h
  · split at h
    · rename_i hz
      cases rx; cases ry
      exact ⟨_, _, rfl, rfl, hz, post_val h hS (.int _)⟩
    · exact h.elim
  · exact h.elim
theorem ad_div : Adq2 G E (rI CDivW fun i j => .int (i / j)) pDiv := fun ρ H st x y v u Q hS rx ry h => by
  unfold pDiv at h
  split at h
  · split at h
    · rename_i hz
      cases rx; cases ry
      refine ⟨_, _, rfl, rfl, wide_div (b := 200) hz.1 ?_ (by decide) (by decide), post_val h hS (.int _)⟩
      have h1 := hz.1
      have h2 := hz.2
      have e : (2 : Nat) ^ 200 = 1606938044258990275541962092341162602522202993782792835301376 := by decide
      rw [e]
      simp only [B200] at h2
      omega
    · exact h.elim
  · exact h.elim
theorem ad_mod : Adq2 G E (rI (fun _ j => 0 < j) fun i j => .int (i % j)) pMod := fun ρ H st x y v u Q hS rx ry h => by
  unfold pMod at h
  split at h
  · split at h
    · rename_i hz
      cases rx; cases ry
      exact ⟨_, _, rfl, rfl, hz, post_val h hS (.int _)⟩
    · exact h.elim
  · exact h.elim
theorem ad_pow : Adq2 G E (rI CPow fun i j => .int (i ^ j.toNat)) pPow := fun ρ H st x y v u Q hS rx ry h => by
  unfold pPow at h
  split at h
  · split at h
    · rename_i hz
      cases rx; cases ry
      exact ⟨_, _, rfl, rfl, ⟨hz.1, by omega, by have h1 := hz.2.2.1; have h2 := hz.2.2.2; simp only [B64] at h1 h2; omega⟩, post_val h hS (.int _)⟩
    · exact h.elim
  · exact h.elim
theorem ad_neg : Adq1 G E (rU fun i => .int (-i)) pNeg := fun ρ H st x v Q hS rx h => by
  unfold pNeg at h
  split at h
  · cases rx
    exact ⟨_, rfl, post_val h hS (.int _)⟩
  · exact h.elim
variable {a b : Expr} {fa fb : DE} {pos : Pos}
theorem ev_add (ha : EV X T E a fa) (hb : EV X T E b fb) : EV X T E (.BinOp a .Add b pos) (d2 pAdd fa fb) := ev_op op_addAll ad_add ha hb
theorem ev_sub (ha : EV X T E a fa) (hb : EV X T E b fb) : EV X T E (.BinOp a .Sub b pos) (d2 pSub fa fb) := ev_op op_sub ad_sub ha hb
theorem ev_mul (ha : EV X T E a fa) (hb : EV X T E b fb) : EV X T E (.BinOp a .Mult b pos) (d2 pMul fa fb) := ev_op op_mul ad_mul ha hb
theorem ev_div (ha : EV X T E a fa) (hb : EV X T E b fb) : EV X T E (.BinOp a .FloorDiv b pos) (d2 pDiv fa fb) := ev_op op_fdivW ad_div ha hb
theorem ev_mod (ha : EV X T E a fa) (hb : EV X T E b fb) : EV X T E (.BinOp a .Mod b pos) (d2 pMod fa fb) := ev_op op_mod ad_mod ha hb
theorem ev_pow (ha : EV X T E a fa) (hb : EV X T E b fb) : EV X T E (.BinOp a .Pow b pos) (d2 pPow fa fb) := ev_op op_pow ad_pow ha hb
theorem ev_neg (ha : EV X T E a fa) : EV X T E (.UnaryOp .USub a pos) (d1 pNeg fa) := ev_un un_neg ad_neg ha
end
end DN
namespace DN
open PySem PySem.Spec PyProof.Rows L2
mutual
def toD0 : PV → Option PyData
  | .non => some .none
  | .bl b => some (.bool b)
  | .int i => some (.int i)
  | .str x => some (.str x)
  | .tup l => (toD0s l).map .tuple
  | .lst l => (toD0s l).map .list
  | .scr l => (toD0s l).map .list
  | _ => none
def toD0s : List PV → Option (List PyData)
  | [] => some []
  | p :: ps => (toD0 p).bind fun d => (toD0s ps).map fun ds => d :: ds
end
def toD (p : PV) (st : Store) : Option PyData := match p with
  | .ref n => (match st[n]? with
    | some (.lst l) => (toD0s l).map .list
    | _ => none)
  | p => toD0 p
def kOf : PV → Option Key
  | .int i => some (.inl i)
  | .str x => some (.inr x)
  | _ => none
def kOfs : List PV → Option (List Key)
  | [] => some []
  | p :: ps => (kOf p).bind fun d => (kOfs ps).map fun ds => d :: ds
def look {κ α : Type} [DecidableEq κ] (es : List (κ × α)) (k : κ) : Option α := (es.find? fun e => decide (e.1 = k)).map (·.2)
def dGet (d k : PV) (st : Store) : Option (Option PV) := match d with
  | .dK ks vs => (kOf k).map fun k => look (ks.zip vs) k
  | .dT ks vs => (match k with
    | .tup l => if isW l then none else (kOfs l).map fun k => look (ks.zip vs) k
    | _ => none)
  | .ref n => (match st[n]? with
    | some (.dK es) => (kOf k).map fun k => look es k
    | some (.dT es) => (match k with
      | .tup l => if isW l then none else (kOfs l).map fun k => look es k
      | _ => none)
    | _ => none)
  | _ => none
def pEqB (x y : PV) : M Bool := fun st => match x, y with
  | .int i, .int j => .ok (decide (i = j)) st
  | .str x, .str y => .ok (decide (x = y)) st
  | x, y => match toD x st, toD y st with
    | some d, some e => if SeqAt.shaped d = true ∧ SeqAt.shaped e = true then .ok (PyData.eqv d e) st else .fail
    | _, _ => .fail
def pEq (x y : PV) : M PV := fun st => (pEqB x y st).bind fun b st => .ok (.bl b) st
def pNe (x y : PV) : M PV := fun st => (pEqB x y st).bind fun b st => .ok (.bl (!b)) st
def pLtI (f : Int → Int → Bool) (x y : PV) : M PV := fun st => match x, y with
  | .int i, .int j => .ok (.bl (f i j)) st
  | _, _ => .fail
abbrev pLt : PV → PV → M PV := pLtI fun i j => decide (i < j)
abbrev pLe : PV → PV → M PV := pLtI fun i j => decide (i ≤ j)
abbrev pGt : PV → PV → M PV := pLtI fun i j => decide (j < i)
abbrev pGe : PV → PV → M PV := pLtI fun i j => decide (j ≤ i)
def isNon : PV → Bool
  | .non => true
  | _ => false
def pIsB (x y : PV) : M Bool := fun st => match y with
  | .non => .ok (isNon x) st
  | .bl b => (match x with
    | .bl a => .ok (decide (a = b)) st
    | _ => .fail)
  | _ => .fail
def pIs (x y : PV) : M PV := fun st => (pIsB x y st).bind fun b st => .ok (.bl b) st
def pIsNot (x y : PV) : M PV := fun st => (pIsB x y st).bind fun b st => .ok (.bl (!b)) st
def pInB (x y : PV) : M Bool := fun st => match dGet y x st with
  | some o => .ok o.isSome st
  | none => match x, y with
    | .str a, .str b => .ok (!(Builtin.Str.occurrences b a 0 b.length 1).isEmpty) st
    | x, y => match toD x st, toD y st with
      | some d, some (.list ds) => if SeqAt.shaped d = true ∧ SeqAt.shaped (.list ds) = true then .ok (ds.any fun z => PyData.eqv z d) st else .fail
      | some d, some (.tuple ds) => if SeqAt.shaped d = true ∧ SeqAt.shaped (.tuple ds) = true then .ok (ds.any fun z => PyData.eqv z d) st else .fail
      | _, _ => .fail
def pIn (x y : PV) : M PV := fun st => (pInB x y st).bind fun b st => .ok (.bl b) st
def pNotIn (x y : PV) : M PV := fun st => (pInB x y st).bind fun b st => .ok (.bl (!b)) st
section
variable {X : Cx} {T : TR} {E : XK} {G : DG} {ρ : List Addr} {H : Hp} {σ : St} {aσ : AE} {st : Store}
mutual
theorem toD0_dp : ∀ (p : PV) (d : PyData) (v : V), toD0 p = some d → Rl G ρ H p v → Dp G.K H v d
  | .non, d, v, h, r => by
    simp only [toD0, Option.some.injEq] at h
    subst h; cases r; exact .non
  | .bl b, d, v, h, r => by
    simp only [toD0, Option.some.injEq] at h
    subst h; cases r; exact .bl b
  | .int i, d, v, h, r => by
    simp only [toD0, Option.some.injEq] at h
    subst h; cases r; exact .int i
  | .str x, d, v, h, r => by
    simp only [toD0, Option.some.injEq] at h
    subst h; cases r; exact .str x
  | .tup l, d, v, h, r => by
    simp only [toD0] at h
    obtain ⟨ds, e, rfl⟩ := Option.map_eq_some_iff.mp h
    cases r with
    | tup q ra => exact .tup q.sq (toD0s_dp l ds _ e ra)
  | .lst l, d, v, h, r => by
    simp only [toD0] at h
    obtain ⟨ds, e, rfl⟩ := Option.map_eq_some_iff.mp h
    cases r with
    | lst q ra => exact .lst q.sq (toD0s_dp l ds _ e ra)
  | .scr l, d, v, h, r => by
    simp only [toD0] at h
    obtain ⟨ds, e, rfl⟩ := Option.map_eq_some_iff.mp h
    cases r with
    | scr q ra => exact .lst (q.elim (fun q => q.sq) fun q => q H) (toD0s_dp l ds _ e ra)
  | .dK _ _, _, _, h, _ => by simp [toD0] at h
  | .dT _ _, _, _, h, _ => by simp [toD0] at h
  | .ref _, _, _, h, _ => by simp [toD0] at h
  | .con _, _, _, h, _ => by simp [toD0] at h
  | .ty _, _, _, h, _ => by simp [toD0] at h
theorem toD0s_dp : ∀ (ps : List PV) (ds : List PyData) (vs : List V), toD0s ps = some ds → RlAll G ρ H ps vs → DpAll G.K H vs ds
  | [], ds, vs, h, r => by
    simp only [toD0s, Option.some.injEq] at h
    subst h; cases r; exact .nil
  | p :: ps, ds, vs, h, r => by
    simp only [toD0s] at h
    obtain ⟨d, e1, h⟩ := Option.bind_eq_some_iff.mp h
    obtain ⟨ds', e2, rfl⟩ := Option.map_eq_some_iff.mp h
    cases r with
    | cons r1 r2 => exact .cons (toD0_dp p d _ e1 r1) (toD0s_dp ps ds' _ e2 r2)
end
theorem toD_dp {p : PV} {d : PyData} {v : V} (hS : RlS G ρ H st) (h : toD p st = some d) (r : Rl G ρ H p v) : Dp G.K H v d := by
  unfold toD at h
  split at h
  · split at h
    · rename_i n _ l e
      obtain ⟨ds, e2, rfl⟩ := Option.map_eq_some_iff.mp h
      cases r with
      | ref q =>
        cases hS.ref q e with
        | lst h r => exact .lst (.inl (.inl h)) (toD0s_dp l ds _ e2 r)
    · cases h
  · exact toD0_dp p d v h r
theorem kOf_v {p : PV} {k : Key} {v : V} (h : kOf p = some k) (r : Rl G ρ H p v) : v = kV k := by
  unfold kOf at h
  split at h
  · cases h; cases r; rfl
  · cases h; cases r; rfl
  · cases h
theorem kOfs_v : ∀ {ps : List PV} {ks : List Key} {vs : List V}, kOfs ps = some ks → RlAll G ρ H ps vs → vs = ks.map kV
  | [], ks, vs, h, r => by
    simp only [kOfs, Option.some.injEq] at h
    subst h; cases r; rfl
  | p :: ps, ks, vs, h, r => by
    simp only [kOfs] at h
    obtain ⟨d, e1, h⟩ := Option.bind_eq_some_iff.mp h
    obtain ⟨ds', e2, rfl⟩ := Option.map_eq_some_iff.mp h
    cases r with
    | cons r1 r2 => rw [kOf_v e1 r1, kOfs_v e2 r2]; rfl
def RlOp (G : DG) (ρ : List Addr) (H : Hp) : Option PV → Option V → Prop
  | some p, some v => Rl G ρ H p v
  | none, none => True
  | _, _ => False
theorem look_val {κ : Type} [DecidableEq κ] (k : κ) : ∀ (es : List (κ × PV)) (kvs : List (κ × V)), es.map (·.1) = kvs.map (·.1) → RlAll G ρ H (es.map (·.2)) (kvs.map (·.2)) → RlOp G ρ H (look es k) (valV kvs k)
  | [], [], _, _ => trivial
  | [], _ :: _, h, _ => by cases h
  | _ :: _, [], h, _ => by cases h
  | (a, p) :: es, (b, v) :: kvs, h, r => by
    simp only [List.map_cons, List.cons.injEq] at h
    obtain ⟨rfl, h⟩ := h
    simp only [List.map_cons] at r
    cases r with
    | cons r1 r2 =>
      have ih := look_val k es kvs h r2
      by_cases e : a = k
      · simp only [look, valV, List.find?_cons, e, decide_true, Option.map_some]
        exact r1
      · simp only [look, valV, List.find?_cons, e, decide_false] at ih ⊢
        exact ih
theorem zip_fst {κ : Type} : ∀ (ks : List κ) (vs : List PV), ks.length = vs.length → (ks.zip vs).map (·.1) = ks ∧ (ks.zip vs).map (·.2) = vs
  | [], [], _ => ⟨rfl, rfl⟩
  | [], _ :: _, h => by cases h
  | _ :: _, [], h => by cases h
  | k :: ks, v :: vs, h => by
    have ih := zip_fst ks vs (by simpa using h)
    simp [ih.1, ih.2]
theorem kOfs_f {l : List PV} {ks : List Key} (h : kOfs l = some ks) : isF l = false := by
  unfold isF
  split
  · simp [kOfs, kOf] at h
  · rfl
theorem tv_key {l : List PV} {ks : List Key} {b : V} (w : isW l = false) (h : kOfs l = some ks) (r : Rl G ρ H (.tup l) b) : ∃ a, b = .ref a ∧ H a = some (.tup (ks.map kV)) := by
  cases r with
  | tup q ra =>
    rw [kOfs_v h ra, w, kOfs_f h] at q
    rcases q with ⟨o, _, q⟩ | ⟨q, _⟩
    · exact ⟨_, rfl, q⟩
    · cases q
theorem dGet_rl {d k : PV} {o : Option PV} {x y : V} (hS : RlS G ρ H st) (h : dGet d k st = some o) (rd : Rl G ρ H d x) (rk : Rl G ρ H k y) : ∃ a o', x = .ref a ∧ DGet H a y o' ∧ RlOp G ρ H o o' := by
  unfold dGet at h
  split at h
  · rename_i ks vs
    obtain ⟨k1, e1, rfl⟩ := Option.map_eq_some_iff.mp h
    cases rd with
    | @dK a _ _ kvs hr hn hk ra =>
      have z := zip_fst ks vs (by rw [hk, List.length_map, ra.length, List.length_map])
      exact ⟨a, _, rfl, .inl ⟨kvs, k1, hr, kOf_v e1 rk, rfl⟩, look_val k1 _ kvs (by rw [z.1, hk]) (by rw [z.2]; exact ra)⟩
  · rename_i ks vs
    split at h
    · split at h
      · cases h
      · rename_i hw
        obtain ⟨k1, e1, rfl⟩ := Option.map_eq_some_iff.mp h
        cases rd with
        | @dT a _ _ kvs hr hn hk ra =>
          have z := zip_fst ks vs (by rw [hk, List.length_map, ra.length, List.length_map])
          obtain ⟨b, rfl, hb⟩ := tv_key (by simpa using hw) e1 rk
          exact ⟨a, _, rfl, .inr ⟨kvs, k1, b, hr, rfl, hb, rfl⟩, look_val k1 _ kvs (by rw [z.1, hk]) (by rw [z.2]; exact ra)⟩
    · cases h
  · split at h
    · rename_i n _ es e
      obtain ⟨k1, e1, rfl⟩ := Option.map_eq_some_iff.mp h
      cases rd with
      | @ref _ a q =>
        cases hS.ref q e with
        | @dK _ _ kvs hh hk ra => exact ⟨a, _, rfl, .inl ⟨kvs, k1, .inl hh, kOf_v e1 rk, rfl⟩, look_val k1 es kvs hk ra⟩
    · rename_i n _ es e
      split at h
      · split at h
        · cases h
        · rename_i hw
          obtain ⟨k1, e1, rfl⟩ := Option.map_eq_some_iff.mp h
          cases rd with
          | @ref _ a q =>
            cases hS.ref q e with
            | @dT _ _ kvs hh hk ra =>
              obtain ⟨b, rfl, hb⟩ := tv_key (by simpa using hw) e1 rk
              exact ⟨a, _, rfl, .inr ⟨kvs, k1, b, .inl hh, rfl, hb, rfl⟩, look_val k1 es kvs hk ra⟩
      · cases h
    · cases h
  · cases h
end
end DN
namespace DN
open PySem PySem.Spec PyProof.Rows L2
section
variable {X : Cx} {T : TR} {E : XK} {G : DG} {ρ : List Addr} {H : Hp} {σ : St} {aσ : AE} {st : Store}
variable {a b c : Expr} {fa fb fc : DE} {pos : Pos}
theorem pst_map {α β : Type} {K : β → Store → List Addr → Hp → Prop} {r : Res α} {g : α → β} (h : Pst G E ρ H K (r.bind fun a st => .ok (g a) st)) : Pst G E ρ H (fun a st => K (g a) st) r := by
  cases r with
  | ok a st => exact h
  | exc c w st => exact h
  | fail => exact h
def rEqA (K : PySem.W.Frag) : R2 := fun x y H Q => rEq x y H Q ∨ rEqD K x y H Q
def rNeA (K : PySem.W.Frag) : R2 := fun x y H Q => rNe x y H Q ∨ rNeD K x y H Q
theorem op_eqA (hu : X.A.units + 65 < cLine) : OpR X (compareOp .Eq) (rEqA X.K) := op_eq.or (op_eqD (by omega))
theorem op_neA (hu : X.A.units + 65 < cLine) : OpR X (compareOp .NotEq) (rNeA X.K) := op_ne.or (op_neD (by omega))
theorem eqB_rl {x y : PV} {v u : V} {W : Bool → Prop} (hS : RlS G ρ H st) (rx : Rl G ρ H x v) (ry : Rl G ρ H y u) (h : Pst G E ρ H (fun b st' _ _ => W b) (pEqB x y st)) :
    (scal v u = true ∧ W (decide (v = u))) ∨ ∃ d e, Dp G.K H v d ∧ Dp G.K H u e ∧ SeqAt.shaped d = true ∧ SeqAt.shaped e = true ∧ W (PyData.eqv d e) := by
  unfold pEqB at h
  split at h
  · rename_i i j
    cases rx; cases ry
    have h := h.ret hS
    refine .inl ⟨rfl, ?_⟩
    have e : decide (V.int i = V.int j) = decide (i = j) := by rw [Bool.eq_iff_iff]; simp
    rw [e]; exact h
  · rename_i i j
    cases rx; cases ry
    have h := h.ret hS
    refine .inl ⟨rfl, ?_⟩
    have e : decide (V.str i = V.str j) = decide (i = j) := by rw [Bool.eq_iff_iff]; simp
    rw [e]; exact h
  · split at h
    · rename_i d e e1 e2
      split at h
      · rename_i hs
        exact .inr ⟨d, e, toD_dp hS e1 rx, toD_dp hS e2 ry, hs.1, hs.2, h.ret hS⟩
      · exact h.elim
    · exact h.elim
theorem eqB_pure {x y : PV} {b : Bool} {st' : Store} (h : pEqB x y st = .ok b st') : st' = st := by
  unfold pEqB at h
  split at h
  · cases h; rfl
  · cases h; rfl
  · split at h
    · split at h
      · cases h; rfl
      · cases h
    · cases h
theorem pst_still {K : Bool → Store → List Addr → Hp → Prop} {r : Res Bool} (hS : RlS G ρ H st) (hp : ∀ b st', r = .ok b st' → st' = st) (hx : ∀ c w s, r ≠ .exc c w s) (h : Pst G E ρ H K r) : Pst G E ρ H (fun b _ _ _ => K b st ρ H) r := by
  cases r with
  | ok b st' =>
    have e := hp b st' rfl
    subst e
    exact fun _ _ _ _ => h ρ H Ext.refl hS
  | exc c w s => exact (hx c w s rfl).elim
  | fail => exact h
theorem eqB_exc {x y : PV} : ∀ c w s, pEqB x y st ≠ .exc c w s := fun c w s h => by
  unfold pEqB at h
  split at h
  · cases h
  · cases h
  · split at h
    · split at h <;> cases h
    · cases h
theorem ad_eq : Adq2 G E (rEqA G.K) pEq := fun ρ H st x y v u Q hS rx ry h => by
  have h := pst_still hS (fun b st' => eqB_pure) eqB_exc (pst_map h)
  rcases eqB_rl (W := fun b => ∀ v, Rl G ρ H (.bl b) v → Q v H) hS rx ry h with ⟨s, q⟩ | ⟨d, e, h1, h2, h3, h4, q⟩
  · exact .inl ⟨s, q _ (.bl _)⟩
  · exact .inr ⟨d, e, h1, h2, h3, h4, q _ (.bl _)⟩
theorem ad_ne : Adq2 G E (rNeA G.K) pNe := fun ρ H st x y v u Q hS rx ry h => by
  have h := pst_still hS (fun b st' => eqB_pure) eqB_exc (pst_map h)
  rcases eqB_rl (W := fun b => ∀ v, Rl G ρ H (.bl (!b)) v → Q v H) hS rx ry h with ⟨s, q⟩ | ⟨d, e, h1, h2, h3, h4, q⟩
  · exact .inl ⟨s, q _ (.bl _)⟩
  · exact .inr ⟨d, e, h1, h2, h3, h4, q _ (.bl _)⟩
theorem ev_eq (hu : X.A.units + 65 < cLine) (ha : EV X T E a fa) (hb : EV X T E b fb) : EV X T E (.Compare a [.Eq] [b] pos) (d2 pEq fa fb) := ev_cmp (op_eqA hu) ad_eq (nomark _) ha hb
theorem ev_ne (hu : X.A.units + 65 < cLine) (ha : EV X T E a fa) (hb : EV X T E b fb) : EV X T E (.Compare a [.NotEq] [b] pos) (d2 pNe fa fb) := ev_cmp (op_neA hu) ad_ne (nomark _) ha hb
theorem ad_cmpI (f : Int → Int → Bool) : Adq2 G E (rI0 fun i j => .bl (f i j)) (pLtI f) := fun ρ H st x y v u Q hS rx ry h => by
  unfold pLtI at h
  split at h
  · cases rx; cases ry
    exact ⟨_, _, rfl, rfl, post_val h hS (.bl _)⟩
  · exact h.elim
theorem ev_lt (ha : EV X T E a fa) (hb : EV X T E b fb) : EV X T E (.Compare a [.Lt] [b] pos) (d2 pLt fa fb) := ev_cmp op_lt (ad_cmpI _) (nomark _) ha hb
theorem ev_ge (ha : EV X T E a fa) (hb : EV X T E b fb) : EV X T E (.Compare a [.GtE] [b] pos) (d2 pGe fa fb) := ev_cmp op_ge (ad_cmpI _) (nomark _) ha hb
def dChain (d d' : PV → PV → M PV) (f g h : DE) : DE := fun σ st => (f σ st).bind fun x st => (g σ st).bind fun y st => (d x y st).bind fun p st => (tB p st).bind fun k st => if k then (h σ st).bind fun z st => d' y z st else .ok (.bl false) st
theorem chain_read {f g : Int → Int → Bool} {Q : VK} (h : Tv G E (dChain (pLtI f) (pLtI g) fa fb fc) σ H Q) : tChain (rI0 fun i j => .bl (f i j)) (rI0 fun i j => .bl (g i j)) (Tv G E fa) (Tv G E fb) (Tv G E fc) σ H Q := by
  obtain ⟨ρ, aσ, st, hE, hS, h⟩ := h
  refine tv_bind hE hS h fun ρ1 H1 x v st1 _ s1 e1 rx h => tv_bind e1 s1 h fun ρ2 H2 y u st2 x2 s2 e2 ry h => ?_
  have rx := rx.ext x2
  cases x with
  | int i =>
    cases y with
    | int j =>
      cases rx; cases ry
      refine ⟨i, j, rfl, rfl, f i j, rfl, ?_⟩
      have h : Pst (G) E ρ2 H2 (KV (G) Q) (if f i j = true then (fc aσ st2).bind fun z st => pLtI g (.int j) z st else .ok (.bl false) st2) := h
      cases q : f i j with
      | true =>
        refine ite_tt ?_
        rw [q, if_pos rfl] at h
        refine tv_bind e2 s2 h fun ρ3 H3 z w st3 x3 s3 e3 rz h => ?_
        exact ad_cmpI g ρ3 H3 st3 (.int j) z (.int j) w Q s3 (.int j) rz h
      | false =>
        refine ite_ff ?_
        rw [q, if_neg Bool.false_ne_true] at h
        exact post_val h s2 (.bl false)
    | _ => exact h.elim
  | _ => exact h.elim
theorem ev_chainI {op op' : CmpOp} {f g : Int → Int → Bool} (ho : OpR X (compareOp op) (rI0 fun i j => .bl (f i j))) (ho' : OpR X (compareOp op') (rI0 fun i j => .bl (g i j))) (ha : EV X T E a fa) (hb : EV X T E b fb) (hc : EV X T E c fc)
    (hm : lastMarks [op, op'] [b, c] = false := by with_unfolding_all rfl) : EV X T E (.Compare a [op, op'] [b, c] pos) (dChain (pLtI f) (pLtI g) fa fb fc) := pe_imp (pe_chain ho ho' ha hb hc hm) fun σ H Q h => chain_read h
theorem isNon_v {x : PV} {v : V} (r : Rl G ρ H x v) : decide (v = .non) = isNon x := by cases r <;> rfl
def rIs : R2 := fun x y H Q => (y = .non ∧ Q (.bl (decide (x = .non))) H) ∨ rIsB x y H Q
def rIsNot : R2 := fun x y H Q => (y = .non ∧ Q (.bl (!decide (x = .non))) H) ∨ rNotB x y H Q
theorem ad_is : Adq2 G E rIs pIs := fun ρ H st x y v u Q hS rx ry h => by
  unfold pIs pIsB at h
  split at h
  · cases ry
    refine .inl ⟨rfl, ?_⟩
    rw [isNon_v rx]
    exact post_val h hS (.bl _)
  · split at h
    · cases rx; cases ry
      exact .inr ⟨_, _, rfl, rfl, post_val h hS (.bl _)⟩
    · exact h.elim
  · exact h.elim
theorem ad_isNot : Adq2 G E rIsNot pIsNot := fun ρ H st x y v u Q hS rx ry h => by
  unfold pIsNot pIsB at h
  split at h
  · cases ry
    refine .inl ⟨rfl, ?_⟩
    rw [isNon_v rx]
    exact post_val h hS (.bl _)
  · split at h
    · cases rx; cases ry
      exact .inr ⟨_, _, rfl, rfl, post_val h hS (.bl _)⟩
    · exact h.elim
  · exact h.elim
theorem ev_is (ha : EV X T E a fa) (hb : EV X T E b fb) : EV X T E (.Compare a [.Is] [b] pos) (d2 pIs fa fb) := ev_cmp (op_isN.or op_isBl) ad_is (nomark _) ha hb
def rInT (K : PySem.W.Frag) (n : Bool) : R2 := fun x y H Q => ∃ d ds, Dp K H x d ∧ Dp K H y (.tuple ds) ∧ SeqAt.shaped d = true ∧ SeqAt.shaped (.tuple ds) = true ∧ Q (.bl (if n then !ds.any fun z => PyData.eqv z d else ds.any fun z => PyData.eqv z d)) H
theorem op_inT (hu : X.A.units + 65 < cLine) : OpR X (compareOp .In) (rInT X.K false) := by
  intro pins s σ H x y v u Q I rx ry h
  obtain ⟨d, ds, hd, he, sd, se, q⟩ := h
  obtain ⟨as, r1⟩ := Dp.reads I d x v hd rx
  obtain ⟨bs, r2⟩ := Dp.reads I (.tuple ds) y u he ry
  exact SeqAt.in_tuple_reads r2 r1 (SeqAt.canLay_of_shaped se) (SeqAt.canLay_of_shaped sd) (room_in_shaped sd hu) ⟨.bl _, H, I, rfl, q⟩
theorem op_notInT (hu : X.A.units + 65 < cLine) : OpR X (compareOp .NotIn) (rInT X.K true) := by
  intro pins s σ H x y v u Q I rx ry h
  obtain ⟨d, ds, hd, he, sd, se, q⟩ := h
  obtain ⟨as, r1⟩ := Dp.reads I d x v hd rx
  obtain ⟨bs, r2⟩ := Dp.reads I (.tuple ds) y u he ry
  exact SeqAt.notIn_tuple_reads r2 r1 (SeqAt.canLay_of_shaped se) (SeqAt.canLay_of_shaped sd) (room_in_shaped sd hu) ⟨.bl _, H, I, rfl, q⟩
def rInK (n : Bool) : R2 := fun y x H Q => ∃ a o, x = .ref a ∧ DGet H a y o ∧ Q (.bl (if n then !o.isSome else o.isSome)) H
theorem op_inK (hu : X.A.units + 65 < cLine) : OpR X (compareOp .In) (rInK false) := by
  intro pins s σ H y x u v Q I ry rx h
  obtain ⟨a, o, rfl, g, q⟩ := h
  cases rx
  exact d_in (by omega) I g ry fun s' I' => ⟨.bl _, H, I', rfl, q⟩
theorem op_notInK (hu : X.A.units + 65 < cLine) : OpR X (compareOp .NotIn) (rInK true) := by
  intro pins s σ H y x u v Q I ry rx h
  obtain ⟨a, o, rfl, g, q⟩ := h
  cases rx
  exact d_notIn (by omega) I g ry fun s' I' => ⟨.bl _, H, I', rfl, q⟩
def rInStr (n : Bool) : R2 := fun x y H Q => ∃ i j, x = .str i ∧ y = .str j ∧ Q (.bl (if n then !(!(Builtin.Str.occurrences j i 0 j.length 1).isEmpty) else !(Builtin.Str.occurrences j i 0 j.length 1).isEmpty)) H
def rInA (K : PySem.W.Frag) (n : Bool) : R2 := fun x y H Q => ((rInK n x y H Q ∨ rInStr n x y H Q) ∨ (∃ d ds, Dp K H x d ∧ Dp K H y (.list ds) ∧ SeqAt.shaped d = true ∧ SeqAt.shaped (.list ds) = true ∧ Q (.bl (if n then !ds.any fun z => PyData.eqv z d else ds.any fun z => PyData.eqv z d)) H)) ∨ rInT K n x y H Q
theorem op_inA (hu : X.A.units + 65 < cLine) : OpR X (compareOp .In) (rInA X.K false) := (((op_inK hu).or op_in_str).or (op_inD hu)).or (op_inT hu)
theorem op_notInA (hu : X.A.units + 65 < cLine) : OpR X (compareOp .NotIn) (rInA X.K true) := (((op_notInK hu).or op_notin_str).or (op_notInD hu)).or (op_notInT hu)
theorem RlOp.some_eq {o : Option PV} {o' : Option V} (r : RlOp G ρ H o o') : o'.isSome = o.isSome := by
  cases o <;> cases o' <;> first | rfl | exact r.elim
theorem inB_rl (n : Bool) {x y : PV} {v u : V} {W : Bool → Prop} {Q : VK} (hW : ∀ b, W b → Q (.bl (if n then !b else b)) H) (hS : RlS G ρ H st) (rx : Rl G ρ H x v) (ry : Rl G ρ H y u) (h : Pst G E ρ H (fun b _ _ _ => W b) (pInB x y st)) : rInA G.K n v u H Q := by
  unfold pInB at h
  split at h
  · rename_i o e
    obtain ⟨a, o', rfl, g, r⟩ := dGet_rl hS e ry rx
    refine .inl (.inl (.inl ⟨a, o', rfl, g, ?_⟩))
    rw [r.some_eq]
    exact hW _ (h.ret hS)
  · split at h
    · cases rx; cases ry
      exact .inl (.inl (.inr ⟨_, _, rfl, rfl, hW _ (h.ret hS)⟩))
    · split at h
      · rename_i d ds e1 e2
        split at h
        · rename_i hs
          exact .inl (.inr ⟨d, ds, toD_dp hS e1 rx, toD_dp hS e2 ry, hs.1, hs.2, hW _ (h.ret hS)⟩)
        · exact h.elim
      · rename_i d ds e1 e2
        split at h
        · rename_i hs
          exact .inr ⟨d, ds, toD_dp hS e1 rx, toD_dp hS e2 ry, hs.1, hs.2, hW _ (h.ret hS)⟩
        · exact h.elim
      · exact h.elim
theorem inB_pure {x y : PV} {b : Bool} {st' : Store} (h : pInB x y st = .ok b st') : st' = st := by
  unfold pInB at h
  split at h
  · cases h; rfl
  · split at h
    · cases h; rfl
    · split at h
      · split at h <;> cases h; rfl
      · split at h <;> cases h; rfl
      · cases h
theorem inB_exc {x y : PV} : ∀ c w s, pInB x y st ≠ .exc c w s := fun c w s h => by
  unfold pInB at h
  split at h
  · cases h
  · split at h
    · cases h
    · split at h
      · split at h <;> cases h
      · split at h <;> cases h
      · cases h
theorem ad_in : Adq2 G E (rInA G.K false) pIn := fun ρ H st x y v u Q hS rx ry h =>
  inB_rl false (W := fun b => ∀ v, Rl G ρ H (.bl b) v → Q v H) (fun b h => h _ (.bl b)) hS rx ry (pst_still hS (fun b st' => inB_pure) inB_exc (pst_map h))
theorem ad_notIn : Adq2 G E (rInA G.K true) pNotIn := fun ρ H st x y v u Q hS rx ry h =>
  inB_rl true (W := fun b => ∀ v, Rl G ρ H (.bl (!b)) v → Q v H) (fun b h => h _ (.bl _)) hS rx ry (pst_still hS (fun b st' => inB_pure) inB_exc (pst_map h))
end
end DN
namespace DN
open PySem PySem.Spec PyProof.Rows L2
def pTruth (p : PV) : M Bool := fun st => match p with
  | .non => .ok false st
  | .bl b => .ok b st
  | .int i => .ok (i != 0) st
  | .str x => if x.length ≤ SZ then .ok ((x.length : Int) != 0) st else .fail
  | .tup l => .ok (!l.isEmpty) st
  | .ref n => (match st[n]? with
    | some (.lst l) => .ok (!l.isEmpty) st
    | some (.dK es) => .ok (!es.isEmpty) st
    | _ => .fail)
  | .lst l => .ok (!l.isEmpty) st
  | _ => .fail
def bTruth (f : DE) : DB := fun σ st => (f σ st).bind pTruth
def mTup (l : List PV) : M PV := fun st => if l.length ≤ SZ then .ok (.tup l) st else .fail
def mLst (l : List PV) : M PV := fun st => if l.length ≤ SZ then .ok (.lst l) st else .fail
def mLstR (l : List PV) : M PV := fun st => if l.length ≤ SZ then .ok (.ref st.length) (st ++ [.lst l]) else .fail
def pIx (x y : PV) : M PV := fun st => match dGet x y st with
  | some (some v) => .ok v st
  | some none => .fail
  | none => match y with
    | .int i => (match x with
      | .tup l => (match atI l i with
        | some v => .ok v st
        | none => .fail)
      | .str z => if z.length ≤ SZ then (match atI z.cps.toList i with
        | some c => .ok (.str ⟨#[c]⟩) st
        | none => .fail) else .fail
      | x => match asR x st with
        | some l => (match atI l i with
          | some v => .ok v st
          | none => .fail)
        | none => .fail)
    | _ => .fail
def cut {α : Type} (xs : List α) (lo hi : Option Int) : List α := (xs.drop (HT.sIx xs.length 0 lo)).take (HT.sIx xs.length xs.length hi - HT.sIx xs.length 0 lo)
def pSl (x : PV) (lo hi : Option Int) : M PV := fun st => match x with
  | .tup l => .ok (.tup (cut l lo hi)) st
  | .str z => if z.length ≤ SZ then .ok (.str (cutS z lo hi)) st else .fail
  | x => match asL x st with
    | some l => .ok (.lst (cut l lo hi)) st
    | none => .fail
abbrev DO := AE → M (Option Int)
def oNone : DO := fun _ st => .ok none st
def oSome (f : DE) : DO := fun σ st => (f σ st).bind fun p st => match p with
  | .int i => .ok (some i) st
  | _ => .fail
def dSl (f : DE) (g h : DO) : DE := fun σ st => (f σ st).bind fun x st => (g σ st).bind fun lo st => (h σ st).bind fun hi st => pSl x lo hi st
section
variable {X : Cx} {T : TR} {E : XK} {G : DG} {ρ : List Addr} {H : Hp} {σ : St} {aσ : AE} {st : Store}
variable {e a b c : Expr} {fa fb fc f : DE} {g h : DB} {pos : Pos}
theorem tv_tB {W : Bool → Hp → Prop} (q : Tb G E (bVal f) σ H W) : L2.tB (Tv G E f) σ H W := by
  obtain ⟨ρ, aσ, st, hE, hS, h⟩ := q
  refine tv_bind hE hS h fun ρ1 H1 x v st1 _ s1 _ rx h => ?_
  cases x with
  | bl b => cases rx; exact ⟨b, rfl, h.ret s1⟩
  | _ => exact h.elim
theorem eb_cmp {op : CmpOp} {r : R2} {d : PV → PV → M PV} (ho : OpR X (compareOp op) r) (ad : Adq2 (gOf X T) E r d) (hm : behindInMarks op b = false) (ha : EV X T E a fa) (hb : EV X T E b fb) : EB X T E (.Compare a [op] [b] pos) (bVal (d2 d fa fb)) :=
  pt_imp (pt_cmpR ho ha hb hm) fun σ H W q => tv2 ad (tv_tB q)
theorem eb_eq (hu : X.A.units + 65 < cLine) (ha : EV X T E a fa) (hb : EV X T E b fb) : EB X T E (.Compare a [.Eq] [b] pos) (bVal (d2 pEq fa fb)) := eb_cmp (op_eqA hu) ad_eq (nomark _) ha hb
theorem eb_ne (hu : X.A.units + 65 < cLine) (ha : EV X T E a fa) (hb : EV X T E b fb) : EB X T E (.Compare a [.NotEq] [b] pos) (bVal (d2 pNe fa fb)) := eb_cmp (op_neA hu) ad_ne (nomark _) ha hb
theorem eb_lt (ha : EV X T E a fa) (hb : EV X T E b fb) : EB X T E (.Compare a [.Lt] [b] pos) (bVal (d2 pLt fa fb)) := eb_cmp op_lt (ad_cmpI _) (nomark _) ha hb
theorem eb_gt (ha : EV X T E a fa) (hb : EV X T E b fb) : EB X T E (.Compare a [.Gt] [b] pos) (bVal (d2 pGt fa fb)) := eb_cmp op_gt (ad_cmpI _) (nomark _) ha hb
theorem eb_is (ha : EV X T E a fa) (hb : EV X T E b fb) : EB X T E (.Compare a [.Is] [b] pos) (bVal (d2 pIs fa fb)) := eb_cmp (op_isN.or op_isBl) ad_is (nomark _) ha hb
theorem eb_isNot (ha : EV X T E a fa) (hb : EV X T E b fb) : EB X T E (.Compare a [.IsNot] [b] pos) (bVal (d2 pIsNot fa fb)) := eb_cmp (op_notN.or op_notBl) ad_isNot (nomark _) ha hb
theorem eb_in (hu : X.A.units + 65 < cLine) (ha : EV X T E a fa) (hb : EV X T E b fb) (hm : behindInMarks .In b = false := by rfl) : EB X T E (.Compare a [.In] [b] pos) (bVal (d2 pIn fa fb)) := eb_cmp (op_inA hu) ad_in hm ha hb
theorem eb_notIn (hu : X.A.units + 65 < cLine) (ha : EV X T E a fa) (hb : EV X T E b fb) (hm : behindInMarks .NotIn b = false := by rfl) : EB X T E (.Compare a [.NotIn] [b] pos) (bVal (d2 pNotIn fa fb)) := eb_cmp (op_notInA hu) ad_notIn hm ha hb
theorem eb_chainI {op op' : CmpOp} {f g : Int → Int → Bool} (ho : OpR X (compareOp op) (rI0 fun i j => .bl (f i j))) (ho' : OpR X (compareOp op') (rI0 fun i j => .bl (g i j))) (ha : EV X T E a fa) (hb : EV X T E b fb) (hc : EV X T E c fc)
    (hm : lastMarks [op, op'] [b, c] = false := by with_unfolding_all rfl) : EB X T E (.Compare a [op, op'] [b, c] pos) (bVal (dChain (pLtI f) (pLtI g) fa fb fc)) := pt_imp (pt_chain ho ho' ha hb hc hm) fun σ H W q => chain_read (tv_tB q)
theorem truth_rl {p : PV} {v : V} {W : Bool → Prop} (hS : RlS G ρ H st) (r : Rl G ρ H p v) (h : Pst G E ρ H (fun b _ _ _ => W b) (pTruth p st)) : ∃ k, TruV G.K v H k ∧ W k := by
  unfold pTruth at h
  split at h
  · cases r; exact ⟨_, rfl, h.ret hS⟩
  · cases r; exact ⟨_, rfl, h.ret hS⟩
  · cases r; exact ⟨_, rfl, h.ret hS⟩
  · split at h
    · rename_i hz
      cases r; exact ⟨_, ⟨by rw [SZ_eq]; exact hz, rfl⟩, h.ret hS⟩
    · exact h.elim
  · rename_i l
    cases r with
    | tup q ra =>
      refine ⟨_, .inr (.inl ⟨_, q.sq, rfl⟩), ?_⟩
      have := h.ret hS
      cases ra <;> exact this
  · split at h
    · rename_i n _ l e
      cases r with
      | ref q =>
        cases hS.ref q e with
        | lst hh ra =>
          refine ⟨_, .inl ⟨_, .inl (.inl hh), rfl⟩, ?_⟩
          have := h.ret hS
          cases ra <;> exact this
    · rename_i n _ es e
      cases r with
      | ref q =>
        cases hS.ref q e with
        | @dK _ _ kvs hh hk ra =>
          refine ⟨_, .inr (.inr ⟨_, hh, rfl⟩), ?_⟩
          have h := h.ret hS
          have e2 : kvs.isEmpty = es.isEmpty := by
            have z := congrArg List.length hk
            simp only [List.length_map] at z
            cases kvs <;> cases es <;> simp_all
          rw [e2]; exact h
    · exact h.elim
  · rename_i l
    cases r with
    | lst q ra =>
      refine ⟨_, .inl ⟨_, q.sq, rfl⟩, ?_⟩
      have := h.ret hS
      cases ra <;> exact this
  · exact h.elim
theorem truth_pure {x : PV} {b : Bool} {st' : Store} (h : pTruth x st = .ok b st') : st' = st := by
  unfold pTruth at h
  split at h <;> first | (cases h; rfl) | (split at h <;> first | (cases h; rfl) | cases h) | cases h
theorem truth_exc {x : PV} : ∀ c w s, pTruth x st ≠ .exc c w s := fun c w s h => by
  unfold pTruth at h
  split at h <;> first | cases h | (split at h <;> cases h)
theorem eb_truth (h : EV X T E e f) (he : ∀ whole, isTrue e X.env whole = (do let v ← whole; standAt e.pos; holding [v] (truthy v)) := by intro _; rfl) : EB X T E e (bTruth f) := pt_imp (pt_truth h he) fun σ H W q => by
  obtain ⟨ρ, aσ, st, hE, hS, h⟩ := q
  refine tv_bind hE hS h fun ρ1 H1 x v st1 _ s1 _ rx h => ?_
  exact truth_rl (W := fun b => W b H1) s1 rx (pst_still s1 (fun b st' => truth_pure) truth_exc h)
def EW (X : Cx) (T : TR) (E : XK) (e : Expr) (f : DB) : Prop := PW X e (Tb (gOf X T) E f)
theorem eb_w (h : EW X T E e g) : EB X T E e g := PW.pt h
theorem ew_and1 (h : EB X T E a g) : EW X T E (.BoolOp .And [a] pos) g := pw_and1 h
theorem ew_or1 (h : EB X T E a g) : EW X T E (.BoolOp .Or [a] pos) g := pw_or1 h
theorem tb_and {W : Bool → Hp → Prop} (q : Tb G E (bAnd g h) σ H W) : tAnd (Tb G E g) (Tb G E h) σ H W := by
  obtain ⟨ρ, aσ, st, hE, hS, h⟩ := q
  refine tb_bind hE hS h fun ρ1 H1 b st1 _ s1 e1 h => ?_
  cases b with
  | true => exact ite_tt ⟨ρ1, aσ, st1, e1, s1, h⟩
  | false => exact ite_ff (h.ret s1)
theorem tb_or {W : Bool → Hp → Prop} (q : Tb G E (bOr g h) σ H W) : tOr (Tb G E g) (Tb G E h) σ H W := by
  obtain ⟨ρ, aσ, st, hE, hS, h⟩ := q
  refine tb_bind hE hS h fun ρ1 H1 b st1 _ s1 e1 h => ?_
  cases b with
  | true => exact ite_tt (h.ret s1)
  | false => exact ite_ff ⟨ρ1, aσ, st1, e1, s1, h⟩
theorem ew_and {rest : List Expr} (ha : EB X T E a g) (hb : EW X T E (.BoolOp .And (b :: rest) pos) h) : EW X T E (.BoolOp .And (a :: b :: rest) pos) (bAnd g h) := pw_imp (pw_and ha hb) fun _ _ _ q => tb_and q
theorem ew_or {rest : List Expr} (ha : EB X T E a g) (hb : EW X T E (.BoolOp .Or (b :: rest) pos) h) : EW X T E (.BoolOp .Or (a :: b :: rest) pos) (bOr g h) := pw_imp (pw_or ha hb) fun _ _ _ q => tb_or q
theorem eb_not (ha : EB X T E a g) : EB X T E (.UnaryOp .Not a pos) (bNot g) := pt_imp (pt_not ha) fun σ H W q => by
  obtain ⟨ρ, aσ, st, hE, hS, h⟩ := q
  exact tb_bind hE hS h fun ρ1 H1 b st1 _ s1 e1 h => h.ret s1
theorem ev_one {op} (h : EV X T E a fa) : EV X T E (.BoolOp op [a] pos) fa := pe_one h
theorem ev_and {rest : List Expr} (ha : EV X T E a fa) (hb : EV X T E (.BoolOp .And (b :: rest) pos) fb) : EV X T E (.BoolOp .And (a :: b :: rest) pos) (dAnd fa fb) := pe_imp (pe_and ha hb) fun σ H W q => by
  obtain ⟨ρ, aσ, st, hE, hS, h⟩ := q
  refine tv_bind hE hS h fun ρ1 H1 x v st1 _ s1 e1 rx h => ?_
  cases x with
  | bl b =>
    cases rx
    refine ⟨b, rfl, ?_⟩
    cases b with
    | true => exact ite_tt ⟨ρ1, aσ, st1, e1, s1, h⟩
    | false => exact ite_ff (post_val h s1 (.bl false))
  | _ => exact h.elim
theorem ev_or {rest : List Expr} (ha : EV X T E a fa) (hb : EV X T E (.BoolOp .Or (b :: rest) pos) fb) : EV X T E (.BoolOp .Or (a :: b :: rest) pos) (dOr fa fb) := pe_imp (pe_or ha hb) fun σ H W q => by
  obtain ⟨ρ, aσ, st, hE, hS, h⟩ := q
  refine tv_bind hE hS h fun ρ1 H1 x v st1 _ s1 e1 rx h => ?_
  cases x with
  | bl b =>
    cases rx
    refine ⟨b, rfl, ?_⟩
    cases b with
    | true => exact ite_tt (post_val h s1 (.bl true))
    | false => exact ite_ff ⟨ρ1, aσ, st1, e1, s1, h⟩
  | _ => exact h.elim
theorem ev_not (ha : EV X T E a fa) : EV X T E (.UnaryOp .Not a pos) (dNot fa) := pe_imp (pe_not ha) fun σ H W q => by
  obtain ⟨ρ, aσ, st, hE, hS, h⟩ := q
  refine tv_bind hE hS h fun ρ1 H1 x v st1 _ s1 e1 rx h => ?_
  cases x with
  | bl b => cases rx; exact ⟨b, rfl, post_val h s1 (.bl _)⟩
  | _ => exact h.elim
theorem ev_if (hc : EB X T E c g) (ha : EV X T E a fa) (hb : EV X T E b fb) : EV X T E (.IfExp c a b pos) (dIf g fa fb) := pe_imp (pe_ifExp hc ha hb) fun σ H W q => by
  obtain ⟨ρ, aσ, st, hE, hS, h⟩ := q
  refine tb_bind hE hS h fun ρ1 H1 b st1 _ s1 e1 h => ?_
  cases b with
  | true => exact ite_tt ⟨ρ1, aσ, st1, e1, s1, h⟩
  | false => exact ite_ff ⟨ρ1, aσ, st1, e1, s1, h⟩
variable {es : List Expr} {fs : DA}
theorem ea_nil : EA X T E [] dA0 := pa_imp pa_nil fun σ H W q => by
  obtain ⟨ρ, aσ, st, hE, hS, h⟩ := q
  exact h.ret hS _ .nil
theorem ea_cons (ha : EV X T E e f) (hr : EA X T E es fs) (hs : starEach (e :: es) X.env = (false, eval e X.env) :: starEach es X.env := by rfl) : EA X T E (e :: es) (dAc f fs) := pa_imp (pa_cons ha hr hs) fun σ H W q => by
  obtain ⟨ρ, aσ, st, hE, hS, h⟩ := q
  exact tv_bind hE hS h fun ρ1 H1 x v st1 _ s1 e1 rx h => ta_bind e1 s1 h fun ρ2 H2 xs vs st2 x2 s2 e2 rs h => h.ret s2 _ (.cons (rx.ext x2) rs)
theorem ad_tup : AdqL G E (fun xs H1 Q => xs.length ≤ sizeLine ∧ NewT H1 xs Q) mTup := fun ρ H st xs vs Q hS r h => by
  unfold mTup at h
  split at h
  · rename_i hz
    exact ⟨by rw [SZ_eq, ← r.length]; exact hz, post_tup h hS r⟩
  · exact h.elim
theorem ad_lst : AdqL G E (fun xs H1 Q => xs.length ≤ sizeLine ∧ ∀ p, H1 p = none → Q (.ref p) (upd H1 p (.lst xs))) mLst := fun ρ H st xs vs Q hS r h => by
  unfold mLst at h
  split at h
  · rename_i hz
    exact ⟨by rw [SZ_eq, ← r.length]; exact hz, fun p hp => post_lst h hS r hp⟩
  · exact h.elim
theorem ad_lstR : AdqL G E (fun xs H1 Q => xs.length ≤ sizeLine ∧ ∀ p, H1 p = none → Q (.ref p) (upd H1 p (.lst xs))) mLstR := fun ρ H st xs vs Q hS r h => by
  unfold mLstR at h
  split at h
  · rename_i hz
    exact ⟨by rw [SZ_eq, ← r.length]; exact hz, fun p hp => post_lstR h hS r hp⟩
  · exact h.elim
theorem ev_tup {x1} (h : EA X T E es fs) : EV X T E (.Tuple es x1 pos) (dAl mTup fs) := pe_imp (pe_tupF h) fun _ _ _ q => tvl ad_tup q
theorem ev_lst (h : EA X T E es fs) : EV X T E (.List es pos) (dAl mLst fs) := pe_imp (pe_lst h) fun _ _ _ q => tvl ad_lst q
theorem ev_lstR (h : EA X T E es fs) : EV X T E (.List es pos) (dAl mLstR fs) := pe_imp (pe_lst h) fun _ _ _ q => tvl ad_lstR q
end
end DN
namespace DN
open PySem PySem.Spec PyProof.Rows L2
section
variable {X : Cx} {T : TR} {E : XK} {G : DG} {ρ : List Addr} {H : Hp} {σ : St} {aσ : AE} {st : Store}
variable {e a b c : Expr} {fa fb fc f : DE} {g h : DB} {pos : Pos} {es : List Expr} {fs : DA}
theorem atI_rl {l : List PV} {xs : List V} {i : Int} {p : PV} (r : RlAll G ρ H l xs) (h : atI l i = some p) : ∃ v, atI xs i = some v ∧ Rl G ρ H p v := by
  unfold atI at h ⊢
  rw [← r.length]
  obtain ⟨j, e1, e2⟩ := Option.bind_eq_some_iff.mp h
  obtain ⟨v, e3, r3⟩ := r.get e2
  exact ⟨v, by rw [e1]; exact e3, r3⟩
def rIxK : R2 := fun x y H Q => ∃ a v, x = .ref a ∧ DGet H a y (some v) ∧ Q v H
theorem ix_dict (hu : X.A.units + 65 < cLine) : IxR X rIxK := by
  intro value slice pins s σ H x y v u Q I rx ry h hs
  obtain ⟨a, w, rfl, g, q⟩ := h
  cases rx
  have T := dict_typeIs I g
  unfold subscriptTail
  refine wpAny_bind ?_
  rw [getitemInPython_of_ne T.not_modules]
  refine wpAny_bind (wpAny_specialOf T PySem.F.slot_dict_getitem.lookup ?_)
  have fin : wpAny (model X.prog X.w) X.A (subscripted slice false (.ref a) u) (fun r s₃ => wpAny (model X.prog X.w) X.A (letTemporaryGo value (.ref a) r >>= fun _ => pure r) (EP X pins σ Q) X.xe s₃) X.xe s := by
    rw [hs]
    exact wpAny_operating (wpAny_mono (d_getItem (Q := fun w' s3 => EP X pins σ Q w' s3) (by omega) I g ry fun w' s3 I3 rw' => ⟨w, H, I3, rw', q⟩) (fun r s₃ h₃ => wpAny_bind (wpAny_letTemporaryGo (wpAny_pure h₃))) fun _ _ x => x)
  first
    | exact wpAny_pure (wpAny_bind fin)
    | exact wpAny_bind (wpAny_pure (wpAny_bind fin))
    | exact wpAny_bind fin
def rIxA (K : PySem.W.Frag) : R2 := fun x y H Q => rIxK x y H Q ∨ rIx K x y H Q
theorem ad_ix : Adq2 G E (rIxA G.K) pIx := fun ρ H st x y v u Q hS rx ry h => by
  unfold pIx at h
  split at h
  · rename_i w e
    obtain ⟨a, o, rfl, g, r⟩ := dGet_rl hS e rx ry
    cases o with
    | none => exact r.elim
    | some o => exact .inl ⟨a, o, rfl, g, post_val h hS r⟩
  · exact h.elim
  · split at h
    · rename_i i
      cases ry
      split at h
      · split at h
        · rename_i w e
          cases rx with
          | tup q ra =>
            obtain ⟨z, e2, r2⟩ := atI_rl ra e
            exact .inr (.inr (.inl ⟨_, _, _, z, rfl, rfl, q.sq, e2, post_val h hS r2⟩))
        · exact h.elim
      · split at h
        · rename_i hz
          split at h
          · rename_i c e
            cases rx
            exact .inr (.inr (.inr ⟨_, _, c, rfl, rfl, by rw [SZ_eq]; exact hz, e, post_val h hS (.str _)⟩))
          · exact h.elim
        · exact h.elim
      · split at h
        · rename_i l e
          split at h
          · rename_i w e1
            obtain ⟨a, xs, rfl, rd, ra⟩ := asR_rl hS rx e
            obtain ⟨z, e2, r2⟩ := atI_rl ra e1
            exact .inr (.inl ⟨_, _, _, z, rfl, rfl, rd, e2, post_val h hS r2⟩)
          · exact h.elim
        · exact h.elim
    · exact h.elim
theorem ev_ix (hu : X.A.units + 65 < cLine) (ha : EV X T E a fa) (hb : EV X T E b fb) (hs : PlainIx b := by exact fun _ _ => rfl) : EV X T E (.Subscript a b pos) (d2 pIx fa fb) := pe_imp (pe_ix ((ix_dict hu).or ix_seq) ha hb hs) fun _ _ _ q => tv2 ad_ix q
theorem RlAll.cut {l : List PV} {xs : List V} (lo hi : Option Int) (r : RlAll G ρ H l xs) : RlAll G ρ H (cut l lo hi) (cutV xs lo hi) := by
  unfold DN.cut cutV
  rw [r.length]
  exact (r.drop _).take _
theorem cut_whole {α : Type} (l : List α) (lo hi : Option Int) (h : HT.sIx l.length 0 lo = 0 ∧ HT.sIx l.length l.length hi = l.length) : cut l lo hi = l := by
  unfold cut
  rw [h.1, h.2]
  simp
def rSlAll (K : PySem.W.Frag) : V → Option Int → Option Int → Hp → VK → Prop := fun x lo hi H Q => (rSlF K x lo hi H Q ∨ rSlS x lo hi H Q) ∨ rSlL K x lo hi H Q
theorem sl_all : SlR X (rSlAll X.K) := (sl_tupF.or sl_str).or sl_list
theorem sl_rl {x : PV} {v : V} {lo hi : Option Int} {Q : VK} (hS : RlS G ρ H st) (rx : Rl G ρ H x v) (h : Pst G E ρ H (KV G Q) (pSl x lo hi st)) : rSlAll G.K v lo hi H Q := by
  unfold pSl at h
  split at h
  · rename_i l
    cases rx with
    | @tup a _ xs q ra =>
      refine .inl (.inl ⟨a, xs, rfl, q.sq, fun w => ?_, fun _ => post_tup h hS (ra.cut lo hi)⟩)
      rw [← ra.length] at w
      rw [cut_whole l lo hi w] at h
      exact post_val h hS (.tup q ra)
  · split at h
    · rename_i hz
      cases rx
      exact .inl (.inr ⟨_, rfl, by rw [SZ_eq]; exact hz, post_val h hS (.str _)⟩)
    · exact h.elim
  · split at h
    · rename_i l e
      obtain ⟨a, xs, rfl, rd, ra⟩ := asL_rl hS rx e
      exact .inr ⟨a, xs, rfl, .inl rd, fun p hp => post_lst h hS (ra.cut lo hi) hp⟩
    · exact h.elim
def To (G : DG) (E : XK) (f : DO) : TO := fun σ H Q => ∃ ρ aσ st, RlE G ρ H aσ σ ∧ RlS G ρ H st ∧ Pst G E ρ H (fun o _ _ H' => Q o H') (f aσ st)
def EO (X : Cx) (T : TR) (E : XK) (e : Option Expr) (f : DO) : Prop := PO X e (To (gOf X T) E f)
theorem po_imp {e : Option Expr} {t t' : TO} (h : PO X e t) (i : ∀ σ H Q, t' σ H Q → t σ H Q) : PO X e t' := ⟨fun pins s σ H Q I q => h.run pins s σ H Q I (i σ H Q q)⟩
theorem eo_none : EO X T E none oNone := po_imp po_none fun σ H W q => by
  obtain ⟨ρ, aσ, st, hE, hS, h⟩ := q
  exact h.ret hS
theorem eo_some (ha : EV X T E a fa) : EO X T E (some a) (oSome fa) := po_imp (po_some ha) fun σ H W q => by
  obtain ⟨ρ, aσ, st, hE, hS, h⟩ := q
  refine tv_bind hE hS h fun ρ1 H1 x v st1 _ s1 _ rx h => ?_
  cases x with
  | int i => cases rx; exact ⟨i, rfl, h.ret s1⟩
  | _ => exact h.elim
theorem to_bind {β : Type} {f : DO} {k : Option Int → Store → Res β} {K : β → Store → List Addr → Hp → Prop} {W : Option Int → Hp → Prop} (hE : RlE G ρ H aσ σ) (hS : RlS G ρ H st) (h : Pst G E ρ H K ((f aσ st).bind k))
    (q : ∀ ρ1 H1 o st1, Ext G.T ρ H ρ1 H1 → RlS G ρ1 H1 st1 → RlE G ρ1 H1 aσ σ → Pst G E ρ1 H1 K (k o st1) → W o H1) : To G E f σ H W :=
  ⟨ρ, aσ, st, hE, hS, h.bind.imp fun x st1 ρ1 H1 _ _ z => q ρ1 H1 x st1 z.1 z.2.1 (hE.ext z.1) z.2.2⟩
theorem ev_sl {lo hi : Option Expr} {fl fh : DO} {p2 : Pos} (ha : EV X T E a fa) (hl : EO X T E lo fl) (hh : EO X T E hi fh) : EV X T E (.Subscript a (.Slice lo hi none p2) pos) (dSl fa fl fh) := pe_imp (pe_slice sl_all ha hl hh) fun σ H W q => by
  obtain ⟨ρ, aσ, st, hE, hS, h⟩ := q
  exact tv_bind hE hS h fun ρ1 H1 x v st1 x1 s1 e1 rx h => to_bind e1 s1 h fun ρ2 H2 lo st2 x2 s2 e2 h => to_bind e2 s2 h fun ρ3 H3 hi st3 x3 s3 e3 h => sl_rl s3 ((rx.ext x2).ext x3) h
variable {id Ty : String} {r : List V → Hp → VK → Prop} {d : List PV → M PV} {x : Str} {p : Pos}
theorem ev_bi (hc : CallR X (.builtin id) r) (ad : AdqL (gOf X T) E r d) (hg : Gl X x) (hm : X.mg x = none) (hv : bootBuiltins x = some (.builtin id)) (ha : EA X T E (e :: es) fs) (hn : x ≠ "__name__" := by decide) (hdb : (x == ("__debug__" : Str)) = false := by decide)
    (hs : starEach (e :: es) X.env = (false, eval e X.env) :: starEach es X.env := by rfl) (hpl : (backTo pos (starEach es X.env)).any (·.1) = false := by rfl) : EV X T E (.Call (.Name x p) (e :: es) [] pos) (dAl d fs) :=
  pe_imp (pe_callB hc hg hm hv ha hn hdb hs hpl) fun _ _ _ q => tvl ad q
theorem ev_ty (hc : CallR X (.type Ty) r) (ad : AdqL (gOf X T) E r d) (hg : Gl X x) (hm : X.mg x = none) (hv : bootBuiltins x = some (.type Ty)) (ha : EA X T E (e :: es) fs) (hn : x ≠ "__name__" := by decide) (hdb : (x == ("__debug__" : Str)) = false := by decide)
    (hs : starEach (e :: es) X.env = (false, eval e X.env) :: starEach es X.env := by rfl) (hpl : (backTo pos (starEach es X.env)).any (·.1) = false := by rfl) : EV X T E (.Call (.Name x p) (e :: es) [] pos) (dAl d fs) :=
  pe_imp (pe_callTy hc hg hm hv ha hn hdb hs hpl) fun _ _ _ q => tvl ad q
end
end DN
namespace DN
open PySem PySem.Spec PyProof.Rows L2
section
variable {prog : Program} {w : World} {A : Around} {E : Value → Shared → Prop} {s : Shared}
open SrtO Builtin in
end
section
variable {X : Cx}
end
end DN
namespace DN
open PySem PySem.Spec PyProof.Rows L2
def qLen (xs : List PV) : M PV := fun st => match xs with
  | [.str x] => if x.length ≤ SZ then .ok (.int x.length) st else .fail
  | [.tup l] => .ok (.int l.length) st
  | [.dK ks vs] => .fail
  | [.dT ks vs] => .fail
  | [.ref n] => (match st[n]? with
    | some (.lst l) => .ok (.int l.length) st
    | some (.dK es) => .ok (.int es.length) st
    | some (.dT es) => .ok (.int es.length) st
    | _ => .fail)
  | [.lst l] => .ok (.int l.length) st
  | [.scr l] => .ok (.int l.length) st
  | _ => .fail
def qInt (xs : List PV) : M PV := fun st => match xs with
  | [.int i] => .ok (.int i) st
  | [.bl b] => .ok (.int (if b then 1 else 0)) st
  | [.str x] => (match PySem.intText? x with
    | some n => if x.length ≤ 640 then .ok (.int n) st else .fail
    | none => .fail)
  | _ => .fail
def qStr (xs : List PV) : M PV := fun st => match xs with
  | [.int i] => if -B200 < i ∧ i < B200 then .ok (.str (toString i)) st else .fail
  | [.str x] => .ok (.str x) st
  | _ => .fail
def qTup (xs : List PV) : M PV := fun st => match xs with
  | [.tup l] => .ok (.tup l) st
  | [x] => (match asL x st with
    | some l => .ok (.tup l) st
    | none => .fail)
  | _ => .fail
def asI (p : PV) (st : Store) : Option (List PV) := match p with
  | .tup l => some l
  | p => asL p st
def qLst (xs : List PV) : M PV := fun st => match xs with
  | [x] => (match asI x st with
    | some l => .ok (.lst l) st
    | none => .fail)
  | _ => .fail
def qLstR (xs : List PV) : M PV := fun st => match xs with
  | [x] => (match asI x st with
    | some l => .ok (.ref st.length) (st ++ [.lst l])
    | none => .fail)
  | _ => .fail
def qMax (xs : List PV) : M PV := fun st => match xs with
  | [.int i, .int j] => .ok (.int (if j > i then j else i)) st
  | _ => .fail
def qMin (xs : List PV) : M PV := fun st => match xs with
  | [.int i, .int j] => .ok (.int (if j < i then j else i)) st
  | _ => .fail
def tyN (p : PV) (st : Store) : Option String := match p with
  | .non => some "NoneType"
  | .bl _ => some "bool"
  | .int _ => some "int"
  | .str _ => some "str"
  | .tup _ => some "tuple"
  | .lst _ => some "list"
  | .ref n => (match st[n]? with
    | some (.lst _) => some "list"
    | some (.dK _) => some "dict"
    | some (.dT _) => some "dict"
    | _ => none)
  | _ => none
def isSub (a b : String) : Option Bool := match a, b with
  | "bool", "int" => some true
  | a, b => if a ∈ ["NoneType", "bool", "int", "str", "tuple", "list", "dict"] ∧ b ∈ ["bool", "int", "str", "tuple", "list", "dict"] then some (decide (a = b)) else none
def qIsI (xs : List PV) : M PV := fun st => match xs with
  | [x, .ty n] => (match (tyN x st).bind fun a => isSub a n with
    | some b => .ok (.bl b) st
    | none => .fail)
  | _ => .fail
def ints? : List PV → Option (List Int)
  | [] => some []
  | .int i :: r => (ints? r).map fun l => i :: l
  | _ :: _ => none
def ins (i : Int) : List Int → List Int
  | [] => [i]
  | j :: r => if i ≤ j then i :: j :: r else j :: ins i r
def isort : List Int → List Int
  | [] => []
  | i :: r => ins i (isort r)
def qSrtI (xs : List PV) : M PV := fun st => match xs with
  | [x] => (match (asI x st).bind ints? with
    | some l => .ok (.lst ((isort l).map PV.int)) st
    | none => .fail)
  | _ => .fail
def rgP (a b : Int) : List PV := (List.range (b - a).toNat).map fun i => PV.int (a + (i : Nat))
section
variable {X : Cx} {T : TR} {E : XK} {G : DG} {ρ : List Addr} {H : Hp} {σ : St} {aσ : AE} {st : Store}
theorem all1 {p : PV} {vs : List V} (r : RlAll G ρ H [p] vs) : ∃ v, vs = [v] ∧ Rl G ρ H p v := by
  cases r with
  | cons r t => cases t; exact ⟨_, rfl, r⟩
theorem all2 {p q : PV} {vs : List V} (r : RlAll G ρ H [p, q] vs) : ∃ v w, vs = [v, w] ∧ Rl G ρ H p v ∧ Rl G ρ H q w := by
  cases r with
  | cons r t => cases t with
    | cons r2 t => cases t; exact ⟨_, _, rfl, r, r2⟩
theorem asI_rl {p : PV} {v : V} {l : List PV} (hS : RlS G ρ H st) (r : Rl G ρ H p v) (h : asI p st = some l) : ∃ a xs, v = .ref a ∧ (SqL G.K H a xs ∨ SqT G.K H a xs) ∧ RlAll G ρ H l xs := by
  unfold asI at h
  split at h
  · cases h
    cases r with
    | tup q ra => exact ⟨_, _, rfl, .inr q.sq, ra⟩
  · obtain ⟨a, xs, e, rd, ra⟩ := asL_rl hS r h
    exact ⟨a, xs, e, .inl (.inl rd), ra⟩
def rLenAll (K : PySem.W.Frag) : List V → Hp → VK → Prop := fun xs H Q => ((∃ x n, xs = [x] ∧ LenV K x H n ∧ Q (.int n) H) ∨ (∃ a kvs, xs = [V.ref a] ∧ H a = some (.dK kvs) ∧ Q (.int kvs.length) H)) ∨ rLenT xs H Q
theorem call_lenAll : CallR X (.builtin "len") (rLenAll X.K) := (call_len.or call_lenD).or call_len_dT
theorem ad_len : AdqL G E (rLenAll G.K) qLen := fun ρ H st xs vs Q hS rs h => by
  unfold qLen at h
  split at h
  · split at h
    · rename_i x hz
      obtain ⟨v, rfl, r⟩ := all1 rs
      cases r
      exact .inl (.inl ⟨_, _, rfl, ⟨by rw [SZ_eq]; exact hz, rfl⟩, post_val h hS (.int _)⟩)
    · exact h.elim
  · obtain ⟨v, rfl, r⟩ := all1 rs
    cases r with
    | tup q ra => exact .inl (.inl ⟨_, _, rfl, .inr ⟨_, q.sq, rfl⟩, by rw [← ra.length]; exact post_val h hS (.int _)⟩)
  · exact h.elim
  · exact h.elim
  · rename_i n
    obtain ⟨v, rfl, r⟩ := all1 rs
    cases r with
    | ref q =>
      split at h
      · rename_i l e
        cases hS.ref q e with
        | lst hh ra => exact .inl (.inl ⟨_, _, rfl, .inl ⟨_, .inl (.inl hh), rfl⟩, by rw [← ra.length]; exact post_val h hS (.int _)⟩)
      · rename_i es e
        cases hS.ref q e with
        | @dK _ _ kvs hh hk ra =>
          have z := congrArg List.length hk
          simp only [List.length_map] at z
          exact .inl (.inr ⟨_, kvs, rfl, hh, by rw [← z]; exact post_val h hS (.int _)⟩)
      · rename_i es e
        cases hS.ref q e with
        | @dT _ _ kvs hh hk ra =>
          have z := congrArg List.length hk
          simp only [List.length_map] at z
          exact .inr ⟨_, kvs, rfl, hh, by rw [← z]; exact post_val h hS (.int _)⟩
      · exact h.elim
  · obtain ⟨v, rfl, r⟩ := all1 rs
    cases r with
    | lst q ra => exact .inl (.inl ⟨_, _, rfl, .inl ⟨_, q.sq, rfl⟩, by rw [← ra.length]; exact post_val h hS (.int _)⟩)
  · obtain ⟨v, rfl, r⟩ := all1 rs
    cases r with
    | scr q ra => exact .inl (.inl ⟨_, _, rfl, .inl ⟨_, q.elim (fun q => q.sq) (fun q => q H), rfl⟩, by rw [← ra.length]; exact post_val h hS (.int _)⟩)
  · exact h.elim
def rIntAll : List V → Hp → VK → Prop := fun xs H Q => ((∃ i, xs = [.int i] ∧ Q (.int i) H) ∨ ∃ k, xs = [.bl k] ∧ Q (.int (if k then 1 else 0)) H) ∨ (∃ a n, xs = [.str a] ∧ PySem.intText? a = some n ∧ a.length ≤ 640 ∧ Q (.int n) H)
theorem call_intAll : CallR X (.type "int") rIntAll := call_int1.or call_int_str
theorem ad_int : AdqL G E rIntAll qInt := fun ρ H st xs vs Q hS rs h => by
  unfold qInt at h
  split at h
  · obtain ⟨v, rfl, r⟩ := all1 rs
    cases r
    exact .inl (.inl ⟨_, rfl, post_val h hS (.int _)⟩)
  · obtain ⟨v, rfl, r⟩ := all1 rs
    cases r
    exact .inl (.inr ⟨_, rfl, post_val h hS (.int _)⟩)
  · obtain ⟨v, rfl, r⟩ := all1 rs
    cases r
    split at h
    · rename_i n e
      split at h
      · rename_i hz
        exact .inr ⟨_, n, rfl, e, hz, post_val h hS (.int _)⟩
      · exact h.elim
    · exact h.elim
  · exact h.elim
def rStrAll : List V → Hp → VK → Prop := fun xs H Q => (∃ i, xs = [.int i] ∧ i.natAbs.log2 < 1920 ∧ Q (.str (toString i)) H) ∨ (∃ a, xs = [.str a] ∧ Q (.str a) H)
theorem call_strAll : CallR X (.type "str") rStrAll := call_str_int.or SkE.call_str_str
theorem ad_str : AdqL G E rStrAll qStr := fun ρ H st xs vs Q hS rs h => by
  unfold qStr at h
  split at h
  · split at h
    · rename_i i hz
      obtain ⟨v, rfl, r⟩ := all1 rs
      cases r
      refine .inl ⟨_, rfl, ?_, post_val h hS (.str _)⟩
      have h1 := hz.1
      have h2 := hz.2
      simp only [B200] at h1 h2
      have e : (2 : Nat) ^ 200 = 1606938044258990275541962092341162602522202993782792835301376 := by decide
      have := PySem.Flt.log2_lt_of (n := i.natAbs) (k := 200) (by decide) (by rw [e]; omega)
      omega
    · exact h.elim
  · obtain ⟨v, rfl, r⟩ := all1 rs
    cases r
    exact .inr ⟨_, rfl, post_val h hS (.str _)⟩
  · exact h.elim
theorem ad_tupOf : AdqL G E (rTupF G.K) qTup := fun ρ H st xs vs Q hS rs h => by
  unfold qTup at h
  split at h
  · obtain ⟨v, rfl, r⟩ := all1 rs
    cases r with
    | tup q ra => exact ⟨_, _, rfl, .inr ⟨q.sq, post_val h hS (.tup q ra)⟩⟩
  · obtain ⟨v, rfl, r⟩ := all1 rs
    split at h
    · rename_i l e
      obtain ⟨a, xs, rfl, rd, ra⟩ := asL_rl hS r e
      exact ⟨_, _, rfl, .inl ⟨.inl rd, post_tup h hS ra⟩⟩
    · exact h.elim
  · exact h.elim
theorem ad_lstOfR : AdqL G E (fun xs H Q => ∃ p ys, xs = [.ref p] ∧ (SqL G.K H p ys ∨ SqT G.K H p ys) ∧ ∀ l, H l = none → Q (.ref l) (upd H l (.lst ys))) qLstR := fun ρ H st xs vs Q hS rs h => by
  unfold qLstR at h
  split at h
  · obtain ⟨v, rfl, r⟩ := all1 rs
    split at h
    · rename_i l e
      obtain ⟨a, xs, rfl, rd, ra⟩ := asI_rl hS r e
      exact ⟨_, _, rfl, rd, fun p hp => post_lstR h hS ra hp⟩
    · exact h.elim
  · exact h.elim
theorem ad_max : AdqL G E (fun xs H Q => ∃ i j, xs = [.int i, .int j] ∧ Q (.int (if j > i then j else i)) H) qMax := fun ρ H st xs vs Q hS rs h => by
  unfold qMax at h
  split at h
  · obtain ⟨v, w, rfl, r1, r2⟩ := all2 rs
    cases r1; cases r2
    exact ⟨_, _, rfl, post_val h hS (.int _)⟩
  · exact h.elim
theorem tyN_x {p : PV} {v : V} {t : String} (hS : RlS G ρ H st) (r : Rl G ρ H p v) (h : tyN p st = some t) : TyX G.K H v (.type t) := by
  unfold tyN at h
  split at h
  · cases h; cases r; exact .base .non
  · cases h; cases r; exact .base (.bl _)
  · cases h; cases r; exact .base (.int _)
  · cases h; cases r; exact .base (.str _)
  · cases h
    cases r with
    | tup q ra =>
      rcases q with ⟨o, _, q⟩ | ⟨_, o, its, n, e, c, _⟩
      · generalize isF _ = f at q
        cases f
        · exact .base (.tup q)
        · exact .fTuple q
      · exact .kTuple e c
  · cases h
    cases r with
    | lst q ra =>
      rcases q.1 with q | ⟨o, q⟩
      · exact .base (.lst q)
      · exact .base (.frz q)
  · split at h
    · rename_i n _ l e
      cases h
      cases r with
      | ref q =>
        cases hS.ref q e with
        | lst hh ra => exact .base (.lst hh)
    · rename_i n _ l e
      cases h
      cases r with
      | ref q =>
        cases hS.ref q e with
        | dK hh hk ra => exact .base (.dK hh)
    · rename_i n _ l e
      cases h
      cases r with
      | ref q =>
        cases hS.ref q e with
        | dT hh hk ra => exact .base (.dT hh)
    · cases h
  · cases h
theorem isSub_kit {K : PySem.W.Frag} {a b : String} {k : Bool} (h : isSub a b = some k) : PySem.W.kitOne K (.type a) (.type b) = some k := by
  refine kit_ty ?_
  unfold isSub at h
  split at h
  · cases h; decide +kernel
  · split at h
    · rename_i hm
      obtain ⟨h1, h2⟩ := hm
      cases h
      simp only [List.mem_cons, List.not_mem_nil, or_false] at h1 h2
      rename_i hne
      rcases h1 with rfl | rfl | rfl | rfl | rfl | rfl | rfl <;> rcases h2 with rfl | rfl | rfl | rfl | rfl | rfl <;> first | (exact (hne rfl rfl).elim) | decide +kernel
    · cases h
theorem ad_isi : AdqL G E (rIsi G.K) qIsI := fun ρ H st xs vs Q hS rs h => by
  unfold qIsI at h
  split at h
  · rename_i x n
    obtain ⟨v, w, rfl, r1, r2⟩ := all2 rs
    cases r2
    split at h
    · rename_i b e
      obtain ⟨t, e1, e2⟩ := Option.bind_eq_some_iff.mp e
      exact ⟨v, _, _, _, b, rfl, .ty n, tyN_x hS r1 e1, isSub_kit e2, post_val h hS (.bl _)⟩
    · exact h.elim
  · exact h.elim
theorem rl_ints : ∀ ns : List Int, RlAll G ρ H (ns.map PV.int) (ns.map V.int)
  | [] => .nil
  | i :: r => .cons (.int i) (rl_ints r)
variable {e a b c : Expr} {fa fb fc f : DE} {pos p : Pos} {es : List Expr} {fs : DA}
theorem ev_len (hg : Gl X "len") (hm : X.mg "len" = none) (ha : EA X T E (e :: es) fs) (hs : starEach (e :: es) X.env = (false, eval e X.env) :: starEach es X.env := by rfl) (hpl : (backTo pos (starEach es X.env)).any (·.1) = false := by rfl) : EV X T E (.Call (.Name "len" p) (e :: es) [] pos) (dAl qLen fs) :=
  ev_bi call_lenAll ad_len hg hm PySem.boot_len ha (by decide) (by decide) hs hpl
theorem ev_intC (hg : Gl X "int") (hm : X.mg "int" = none) (ha : EA X T E (e :: es) fs) (hs : starEach (e :: es) X.env = (false, eval e X.env) :: starEach es X.env := by rfl) (hpl : (backTo pos (starEach es X.env)).any (·.1) = false := by rfl) : EV X T E (.Call (.Name "int" p) (e :: es) [] pos) (dAl qInt fs) :=
  ev_ty call_intAll ad_int hg hm (by decide +kernel) ha (by decide) (by decide) hs hpl
theorem ev_strC (hg : Gl X "str") (hm : X.mg "str" = none) (ha : EA X T E (e :: es) fs) (hs : starEach (e :: es) X.env = (false, eval e X.env) :: starEach es X.env := by rfl) (hpl : (backTo pos (starEach es X.env)).any (·.1) = false := by rfl) : EV X T E (.Call (.Name "str" p) (e :: es) [] pos) (dAl qStr fs) :=
  ev_ty call_strAll ad_str hg hm (by decide +kernel) ha (by decide) (by decide) hs hpl
theorem ev_tupC (hg : Gl X "tuple") (hm : X.mg "tuple" = none) (ha : EA X T E (e :: es) fs) (hs : starEach (e :: es) X.env = (false, eval e X.env) :: starEach es X.env := by rfl) (hpl : (backTo pos (starEach es X.env)).any (·.1) = false := by rfl) : EV X T E (.Call (.Name "tuple" p) (e :: es) [] pos) (dAl qTup fs) :=
  ev_ty call_tupleF ad_tupOf hg hm (by decide +kernel) ha (by decide) (by decide) hs hpl
theorem ev_lstCR (hg : Gl X "list") (hm : X.mg "list" = none) (ha : EA X T E (e :: es) fs) (hs : starEach (e :: es) X.env = (false, eval e X.env) :: starEach es X.env := by rfl) (hpl : (backTo pos (starEach es X.env)).any (·.1) = false := by rfl) : EV X T E (.Call (.Name "list" p) (e :: es) [] pos) (dAl qLstR fs) :=
  ev_ty call_list_of ad_lstOfR hg hm (by decide +kernel) ha (by decide) (by decide) hs hpl
theorem ev_max (hc : X.calm = true) (hg : Gl X "max") (hm : X.mg "max" = none) (ha : EA X T E (e :: es) fs) (hs : starEach (e :: es) X.env = (false, eval e X.env) :: starEach es X.env := by rfl) (hpl : (backTo pos (starEach es X.env)).any (·.1) = false := by rfl) : EV X T E (.Call (.Name "max" p) (e :: es) [] pos) (dAl qMax fs) :=
  ev_bi (call_max2 hc) ad_max hg hm (by decide +kernel) ha (by decide) (by decide) hs hpl
theorem ev_isi (hg : Gl X "isinstance") (hm : X.mg "isinstance" = none) (ha : EA X T E (e :: es) fs) (hs : starEach (e :: es) X.env = (false, eval e X.env) :: starEach es X.env := by rfl) (hpl : (backTo pos (starEach es X.env)).any (·.1) = false := by rfl) : EV X T E (.Call (.Name "isinstance" p) (e :: es) [] pos) (dAl qIsI fs) :=
  ev_bi call_isi ad_isi hg hm (by decide +kernel) ha (by decide) (by decide) hs hpl
end
end DN
namespace DN
open PySem PySem.Spec PyProof.Rows L2
def dM (chk : PV → Store → Bool) (d : PV → List PV → M PV) (f : DE) (g : DA) : DE := fun σ st => (f σ st).bind fun x st => if chk x st then (g σ st).bind fun xs st => d x xs st else .fail
def dM0 (chk : PV → Store → Bool) (d : PV → List PV → M PV) (f : DE) : DE := fun σ st => (f σ st).bind fun x st => if chk x st then d x [] st else .fail
def isL (p : PV) (st : Store) : Bool := (asL p st).isSome
def isS (p : PV) (_ : Store) : Bool := match p with
  | .str _ => true
  | _ => false
def refL (p : PV) (st : Store) : Option (Nat × List PV) := match p with
  | .ref n => (match st[n]? with
    | some (.lst l) => some (n, l)
    | _ => none)
  | _ => none
def mAppend (x : PV) (xs : List PV) : M PV := fun st => match refL x st, xs with
  | some (n, l), [y] => if l.length < SZ then .ok .non (st.set n (.lst (l ++ [y]))) else .fail
  | _, _ => .fail
def mExtend (x : PV) (xs : List PV) : M PV := fun st => match refL x st, xs with
  | some (n, l), [y] => (match asL y st with
    | some m => if l.length + m.length ≤ SZ then .ok .non (st.set n (.lst (l ++ m))) else .fail
    | none => .fail)
  | _, _ => .fail
def mPop0 (x : PV) (xs : List PV) : M PV := fun st => match refL x st, xs with
  | some (n, l), [] => (match l[l.length - 1]? with
    | some y => .ok y (st.set n (.lst l.dropLast))
    | none => .fail)
  | _, _ => .fail
def mPop1 (x : PV) (xs : List PV) : M PV := fun st => match refL x st, xs with
  | some (n, l), [.int i] => if -B63 ≤ i ∧ i < B63 then (match seqIndex? i l.length with
    | some k => (match l[k]? with
      | some y => .ok y (st.set n (.lst (l.eraseIdx k)))
      | none => .fail)
    | none => .fail) else .fail
  | _, _ => .fail
where B63 : Int := 9223372036854775808
def idxD (d : PyData) : List PyData → Option Nat
  | [] => none
  | z :: r => if PyData.eqv z d then some 0 else (idxD d r).map (· + 1)
def putA {κ α : Type} [DecidableEq κ] (es : List (κ × α)) (k : κ) (v : α) : List (κ × α) :=
  if (es.any fun e => decide (e.1 = k)) = true then es.map fun e => if e.1 = k then (e.1, v) else e else es ++ [(k, v)]
def pSet (o i v : PV) : M Unit := fun st => match o with
  | .ref n => (match st[n]? with
    | some (.dK es) => (match kOf i with
      | some k => if es.length < SZ then .ok () (st.set n (.dK (putA es k v))) else .fail
      | none => .fail)
    | some (.dT es) => (match i with
      | .tup l => if isW l = true then .fail else (match kOfs l with
        | some k => if es.length < SZ then .ok () (st.set n (.dT (putA es k v))) else .fail
        | none => .fail)
      | _ => .fail)
    | some (.lst l) => (match i with
      | .int k => (match ixN l.length k with
        | some j => .ok () (st.set n (.lst (l.set j v)))
        | none => .fail)
      | _ => .fail)
    | _ => .fail)
  | _ => .fail
section
variable {X : Cx} {T : TR} {E : XK} {G : DG} {ρ : List Addr} {H : Hp} {σ : St} {aσ : AE} {st : Store}
theorem refL_eq {x : PV} {n : Nat} {l : List PV} (h : refL x st = some (n, l)) : x = .ref n ∧ st[n]? = some (.lst l) := by
  unfold refL at h
  split at h
  · split at h
    · rename_i e
      cases h
      exact ⟨rfl, e⟩
    · cases h
  · cases h
theorem refL_rl {x : PV} {v : V} {n : Nat} {l : List PV} (hS : RlS G ρ H st) (r : Rl G ρ H x v) (h : refL x st = some (n, l)) : ∃ a xs, v = .ref a ∧ ρ[n]? = some a ∧ st[n]? = some (.lst l) ∧ H a = some (.lst xs) ∧ RlAll G ρ H l xs := by
  obtain ⟨rfl, e⟩ := refL_eq h
  cases r with
  | ref q =>
    cases hS.ref q e with
    | lst hh ra => exact ⟨_, _, rfl, q, e, hh, ra⟩
theorem post_set {Q : VK} {n : Nat} {a : Addr} {l l' : List PV} {xs xs' : List V} {p : PV} {v : V} (h : Pst G E ρ H (KV G Q) (.ok p (st.set n (.lst l')))) (hS : RlS G ρ H st) (ha : ρ[n]? = some a) (hs : st[n]? = some (.lst l)) (hh : H a = some (.lst xs))
    (rl : RlAll G ρ H l' xs') (rp : Rl G ρ H p v) : Q v (upd H a (.lst xs')) := by
  have e : Ext G.T ρ H ρ (upd H a (.lst xs')) := ext_set hS (List.mem_of_getElem? ha) hh trivial
  exact h ρ _ e (hS.set ha hs hh trivial (.lst upd_same (rl.ext e))) v (rp.ext e)
def AdqM (G : DG) (E : XK) (r : V → List V → Hp → VK → Prop) (d : PV → List PV → M PV) : Prop := ∀ ρ H st x xs v vs Q, RlS G ρ H st → Rl G ρ H x v → RlAll G ρ H xs vs → Pst G E ρ H (KV G Q) (d x xs st) → r v vs H Q
theorem isL_ty {x : PV} {v : V} (hS : RlS G ρ H st) (r : Rl G ρ H x v) (h : isL x st = true) : tyV G.K "list" v H := by
  unfold isL at h
  obtain ⟨l, e⟩ := Option.isSome_iff_exists.mp h
  obtain ⟨a, xs, rfl, rd, ra⟩ := asL_rl hS r e
  exact .inl ⟨rfl, xs, .inl rd⟩
theorem isS_ty {x : PV} {v : V} (hS : RlS G ρ H st) (r : Rl G ρ H x v) (h : isS x st = true) : tyV G.K "str" v H := by
  cases x <;> cases r <;> first | rfl | cases h
variable {o e : Expr} {es : List Expr} {fo : DE} {fs : DA} {name : Str} {apos cpos : Pos} {Ty id : String} {r : V → List V → Hp → VK → Prop} {d : PV → List PV → M PV} {chk : PV → Store → Bool}
theorem ev_m (pa : PlainAttrs Ty) (slot : Slot Ty name id) (hty : typeOf (.builtin id) = pure (.type "method_descriptor")) (hm : MtR X id r) (hk : ∀ ρ H st x v, RlS (gOf X T) ρ H st → Rl (gOf X T) ρ H x v → chk x st = true → tyV X.K Ty v H) (ad : AdqM (gOf X T) E r d) (ho : EV X T E o fo) (ha : EA X T E (e :: es) fs)
    (hbase : attributeBase o name X.env (eval o X.env) = eval o X.env := by rfl)
    (hfew : ((backTo cpos (starEach (e :: es) X.env)).all (fun x => !x.1) && (backToKw cpos (keywordEach [] X.env)).all (fun x => x.1.isSome)
      && decide ((e :: es).length + ([] : List Keyword).length + (if ([] : List Keyword).isEmpty then 0 else 1) < 30)) = true := by rfl)
    (hline : (apos.endLine == cpos.line) = true := by rfl) (hs : starEach (e :: es) X.env = (false, eval e X.env) :: starEach es X.env := by rfl) (hplain : (backTo cpos (starEach es X.env)).any (·.1) = false := by rfl) :
    EV X T E (.Call (.Attribute o name apos) (e :: es) [] cpos) (dM chk d fo fs) := pe_imp (pe_bm pa slot hty hm ho ha hbase hfew hline hs hplain) fun σ H Q q => by
  obtain ⟨ρ, aσ, st, hE, hS, h⟩ := q
  refine tv_bind hE hS h fun ρ1 H1 x v st1 _ s1 e1 rx h => ?_
  split at h
  · rename_i hc
    exact ⟨hk _ _ _ _ _ s1 rx hc, ta_bind e1 s1 h fun ρ2 H2 xs vs st2 x2 s2 _ rs h => ad ρ2 H2 st2 x xs v vs Q s2 (rx.ext x2) rs h⟩
  · exact h.elim
theorem ad_append : AdqM G E rAppend mAppend := fun ρ H st x xs v vs Q hS rx rs h => by
  unfold mAppend at h
  split at h
  · rename_i n l y e
    split at h
    · rename_i hz
      obtain ⟨a, zs, rfl, ha, hs, hh, ra⟩ := refL_rl hS rx e
      obtain ⟨w, rfl, ry⟩ := all1 rs
      exact ⟨a, zs, w, rfl, rfl, hh, by rw [SZ_eq, ← ra.length]; exact hz, post_set h hS ha hs hh (ra.append (.cons ry .nil)) .non⟩
    · exact h.elim
  · exact h.elim
def rExtR : V → List V → Hp → VK → Prop := fun x vs H Q => ∃ l b xs zs, x = .ref l ∧ vs = [.ref b] ∧ H l = some (.lst xs) ∧ Rd H b (.lst zs) ∧ xs.length + zs.length ≤ sizeLine ∧ Q .non (upd H l (.lst (xs ++ zs)))
theorem mt_extR : MtM X "list.extend" rExtR := by
  intro pins s σ H x vs v us Q I rx rv h
  obtain ⟨l, b, xs, zs, rfl, rfl, hH, hB, hz, q⟩ := h
  obtain ⟨u, rfl, ru⟩ := rv.one
  cases rx
  cases ru
  obtain ⟨z, its, n, r, hl, e⟩ := I.lstM hH
  obtain ⟨z2, its2, n2, r2, hl2, e2⟩ := inv_lst I hB
  have hsz : its.toArray.size + its2.toArray.size ≤ sizeLine := by simp only [List.size_toArray]; omega
  have hlong : ¬ (!its.toArray.isEmpty && Builtin.List.listTooLong (its.toArray.size + its2.toArray.size)) = true := by
    rw [notLongL hsz]
    simp
  refine call_meets F.slot_list_extend ⟨_, e, rfl⟩ F.entry_list_extend (F.args_list_extend_2 _ _)
    (AutoSeq1.list_extend_list_list_0 l its.toArray n b its2.toArray n2 hlong (by simp only [List.size_toArray]; omega) (by omega)) ⟨e, e2, ?_⟩
  exact ⟨.non, _, I.lset (its' := its ++ its2) hH e (by simp) (r.append r2) (by rw [List.length_append]; omega), rfl, q⟩
theorem ad_extend : AdqM G E rExtR mExtend := fun ρ H st x xs v vs Q hS rx rs h => by
  unfold mExtend at h
  split at h
  · rename_i n l y e
    split at h
    · rename_i m e2
      split at h
      · rename_i hz
        obtain ⟨a, zs, rfl, ha, hs, hh, ra⟩ := refL_rl hS rx e
        obtain ⟨w, rfl, ry⟩ := all1 rs
        obtain ⟨b, ys, rfl, rd, rb⟩ := asL_rl hS ry e2
        exact ⟨a, b, zs, ys, rfl, rfl, hh, rd, by rw [SZ_eq, ← ra.length, ← rb.length]; exact hz, post_set h hS ha hs hh (ra.append rb) .non⟩
      · exact h.elim
    · exact h.elim
  · exact h.elim
theorem RlAll.dropLast {l : List PV} {xs : List V} (r : RlAll G ρ H l xs) : RlAll G ρ H l.dropLast xs.dropLast := by
  rw [List.dropLast_eq_take, List.dropLast_eq_take, r.length]
  exact r.take _
theorem ad_pop1 : AdqM G E rPopAt mPop1 := fun ρ H st x xs v vs Q hS rx rs h => by
  unfold mPop1 at h
  split at h
  · rename_i n l i e
    split at h
    · rename_i hz
      split at h
      · rename_i k ek
        split at h
        · rename_i y e2
          obtain ⟨a, zs, rfl, ha, hs, hh, ra⟩ := refL_rl hS rx e
          obtain ⟨w, rfl, ry⟩ := all1 rs
          cases ry
          obtain ⟨w, e3, rw3⟩ := ra.get e2
          exact ⟨a, zs, i, k, w, rfl, rfl, hh, hz.1, hz.2, by rw [← ra.length]; exact ek, e3, post_set h hS ha hs hh (ra.eraseIdx k) rw3⟩
        · exact h.elim
      · exact h.elim
    · exact h.elim
  · exact h.elim
theorem ev_append (ho : EV X T E o fo) (ha : EV X T E e (f : DE)) (hbase : attributeBase o "append" X.env (eval o X.env) = eval o X.env := by rfl)
    (hfew : ((backTo cpos (starEach [e] X.env)).all (fun x => !x.1) && (backToKw cpos (keywordEach [] X.env)).all (fun x => x.1.isSome)
      && decide ([e].length + ([] : List Keyword).length + (if ([] : List Keyword).isEmpty then 0 else 1) < 30)) = true := by rfl) (hline : (apos.endLine == cpos.line) = true := by rfl) (hs : starEach [e] X.env = (false, eval e X.env) :: starEach [] X.env := by rfl) (hplain : (backTo cpos (starEach [] X.env)).any (·.1) = false := by rfl) :
    EV X T E (.Call (.Attribute o "append" apos) [e] [] cpos) (dM isL mAppend fo (dAc f dA0)) :=
  ev_m PySem.F.plainAttrs_list PySem.F.slot_list_append PySem.F.type_list_append mt_append (fun _ _ _ _ _ => isL_ty) ad_append ho (ea_cons ha ea_nil hs) hbase hfew hline hs hplain
theorem ev_extend (ho : EV X T E o fo) (ha : EV X T E e (f : DE)) (hbase : attributeBase o "extend" X.env (eval o X.env) = eval o X.env := by rfl)
    (hfew : ((backTo cpos (starEach [e] X.env)).all (fun x => !x.1) && (backToKw cpos (keywordEach [] X.env)).all (fun x => x.1.isSome)
      && decide ([e].length + ([] : List Keyword).length + (if ([] : List Keyword).isEmpty then 0 else 1) < 30)) = true := by rfl) (hline : (apos.endLine == cpos.line) = true := by rfl) (hs : starEach [e] X.env = (false, eval e X.env) :: starEach [] X.env := by rfl) (hplain : (backTo cpos (starEach [] X.env)).any (·.1) = false := by rfl) :
    EV X T E (.Call (.Attribute o "extend" apos) [e] [] cpos) (dM isL mExtend fo (dAc f dA0)) :=
  ev_m PySem.F.plainAttrs_list PySem.F.slot_list_extend PySem.F.type_list_extend mt_extR (fun _ _ _ _ _ => isL_ty) ad_extend ho (ea_cons ha ea_nil hs) hbase hfew hline hs hplain
theorem ev_pop1 (ho : EV X T E o fo) (ha : EV X T E e (f : DE)) (hbase : attributeBase o "pop" X.env (eval o X.env) = eval o X.env := by rfl)
    (hfew : ((backTo cpos (starEach [e] X.env)).all (fun x => !x.1) && (backToKw cpos (keywordEach [] X.env)).all (fun x => x.1.isSome)
      && decide ([e].length + ([] : List Keyword).length + (if ([] : List Keyword).isEmpty then 0 else 1) < 30)) = true := by rfl) (hline : (apos.endLine == cpos.line) = true := by rfl) (hs : starEach [e] X.env = (false, eval e X.env) :: starEach [] X.env := by rfl) (hplain : (backTo cpos (starEach [] X.env)).any (·.1) = false := by rfl) :
    EV X T E (.Call (.Attribute o "pop" apos) [e] [] cpos) (dM isL mPop1 fo (dAc f dA0)) :=
  ev_m PySem.F.plainAttrs_list PySem.F.slot_list_pop PySem.F.type_list_pop mt_popAt (fun _ _ _ _ _ => isL_ty) ad_pop1 ho (ea_cons ha ea_nil hs) hbase hfew hline hs hplain
end
end DN
namespace DN
open PySem PySem.Spec PyProof.Rows L2
abbrev DT := PV → AE → M AE
abbrev DTs := List PV → AE → M AE
def tName (i : Nat) : DT := fun p σ st => .ok (σ.set i (some p)) st
def tNil : DTs := fun ps σ st => match ps with
  | [] => .ok σ st
  | _ => .fail
def tCons (t : DT) (ts : DTs) : DTs := fun ps σ st => match ps with
  | p :: r => (t p σ st).bind fun σ st => ts r σ st
  | [] => .fail
def tTupP (n : Nat) (ts : DTs) : DT := fun p σ st => match p with
  | .tup l => if l.length = n then ts l σ st else .fail
  | _ => .fail
def tSub (fo fi : DE) : DT := fun p σ st => (fo σ st).bind fun o st => (fi σ st).bind fun i st => (pSet o i p st).bind fun _ st => .ok σ st
def sNext : DS := fun σ st => .ok (.nx, σ) st
def sBreak : DS := fun σ st => .ok (.bk, σ) st
def sCont : DS := fun σ st => .ok (.ct, σ) st
def sSeq (a b : DS) : DS := fun σ st => (a σ st).bind fun r st => match r with
  | (.nx, σ) => b σ st
  | r => .ok r st
def sExpr (f : DE) : DS := fun σ st => (f σ st).bind fun _ st => .ok (.nx, σ) st
def sRet (f : DE) : DS := fun σ st => (f σ st).bind fun v st => .ok (.rt v, σ) st
def sRetN : DS := fun σ st => .ok (.rt .non, σ) st
def sIf (c : DB) (a b : DS) : DS := fun σ st => (c σ st).bind fun k st => if k then a σ st else b σ st
def sAsg (f : DE) (t : DT) : DS := fun σ st => (f σ st).bind fun p st => (t p σ st).bind fun σ st => .ok (.nx, σ) st
def sPar (i j : Nat) (f : DA) : DS := fun σ st => (f σ st).bind fun ps st => match ps with
  | [p, q] => .ok (.nx, (σ.set i (some p)).set j (some q)) st
  | _ => .fail
def sPar3 (i j k : Nat) (f : DA) : DS := fun σ st => (f σ st).bind fun ps st => match ps with
  | [p, q, r] => .ok (.nx, ((σ.set i (some p)).set j (some q)).set k (some r)) st
  | _ => .fail
def wipeA (σ : AE) : List Nat → AE
  | [] => σ
  | i :: r => wipeA (σ.set i none) r
def forL (t : DT) (b : DS) (w : List Nat) (okS : Store → Bool) : List PV → DS
  | [], σ, st => if okS st then .ok (.nx, wipeA σ w) st else .fail
  | p :: r, σ, st => if okS st then (t p σ st).bind fun σ st => (b σ st).bind fun r' st => match r' with
    | (.nx, σ) => forL t b w okS r (wipeA σ w) st
    | (.ct, σ) => forL t b w okS r (wipeA σ w) st
    | (.bk, σ) => .ok (.nx, wipeA σ w) st
    | (.rt v, σ) => .ok (.rt v, σ) st
    else .fail
abbrev Src := List PV × (Store → Bool)
abbrev DI := AE → M Src
def sFor (s : DI) (t : DT) (b : DS) (w : List Nat) : DS := fun σ st => (s σ st).bind fun r st => forL t b w r.2 r.1 σ st
def whileN (c : DB) (b : DS) (w : List Nat) : Nat → DS
  | 0, _, _ => .fail
  | n + 1, σ, st => (c σ st).bind fun k st => if k then (b σ st).bind fun r' st => match r' with
    | (.nx, σ) => whileN c b w n (wipeA σ w) st
    | (.ct, σ) => whileN c b w n (wipeA σ w) st
    | (.bk, σ) => .ok (.nx, wipeA σ w) st
    | (.rt v, σ) => .ok (.rt v, σ) st
    else .ok (.nx, σ) st
open Classical in
noncomputable def sWhile (c : DB) (b : DS) (w : List Nat) : DS := fun σ st => if h : ∃ n, whileN c b w n σ st ≠ .fail then whileN c b w (Classical.choose h) σ st else .fail
open Classical in
noncomputable def srcOf (p : PV) : M Src := fun st => match p with
  | .tup l => .ok (l, fun _ => true) st
  | .lst l => .ok (l, fun _ => true) st
  | .ref n => (match st[n]? with
    | some (.lst l) => .ok (l, fun st => decide (st[n]? = some (.lst l))) st
    | _ => .fail)
  | .str z => .ok (z.cps.toList.map fun c => .str ⟨#[c]⟩, fun _ => true) st
  | _ => .fail
noncomputable def iSeq (f : DE) : DI := fun σ st => (f σ st).bind fun p st => srcOf p st
def rgOk (i : Int) : Bool := decide (-4611686018427387904 ≤ i ∧ i < 4611686018427387904)
def iRg1 (f : DE) : DI := fun σ st => (f σ st).bind fun p st => match p with
  | .int n => if rgOk n then .ok (rgP 0 n, fun _ => true) st else .fail
  | _ => .fail
def iRg2 (f g : DE) : DI := fun σ st => (f σ st).bind fun p st => (g σ st).bind fun q st => match p, q with
  | .int a, .int b => if rgOk a && rgOk b then .ok (rgP a b, fun _ => true) st else .fail
  | _, _ => .fail
def numbered : Nat → List PV → List PV
  | _, [] => []
  | i, p :: r => .tup [.int i, p] :: numbered (i + 1) r
section
variable {X : Cx} {T : TR} {E : XK} {G : DG} {ρ : List Addr} {H : Hp} {σ : St} {aσ : AE} {st : Store}
variable {a b c e : Expr} {fa fb fc f : DE} {pos : Pos}
theorem RlE.set {i : Nat} {p : PV} {v : V} (hE : RlE G ρ H aσ σ) (r : Rl G ρ H p v) : RlE G ρ H (aσ.set i (some p)) (σ.set i (some v)) := by
  refine ⟨by simp [hE.len], fun j q h => ?_⟩
  by_cases e : i = j
  · subst e
    have hi : i < (aσ.set i (some p)).length := (List.getElem?_eq_some_iff.mp h).1
    rw [List.length_set] at hi
    rw [List.getElem?_set_self hi] at h
    cases h
    exact ⟨v, by rw [List.getElem?_set_self (by rw [← hE.len]; exact hi)], r⟩
  · rw [List.getElem?_set_ne e] at h
    obtain ⟨u, h1, h2⟩ := hE.at_ j q h
    exact ⟨u, by rw [List.getElem?_set_ne e]; exact h1, h2⟩
theorem RlE.wipe (w : List Nat) : ∀ {aσ : AE}, RlE G ρ H aσ σ → RlE G ρ H (wipeA aσ w) σ := by
  induction w with
  | nil => exact fun h => h
  | cons i r ih =>
    intro aσ h
    refine ih ⟨by simp [h.len], fun j p hp => ?_⟩
    by_cases e : i = j
    · subst e
      have hi : i < (aσ.set i none).length := (List.getElem?_eq_some_iff.mp hp).1
      rw [List.length_set] at hi
      rw [List.getElem?_set_self hi] at hp
      cases hp
    · rw [List.getElem?_set_ne e] at hp
      exact h.at_ j p hp
def Tg (G : DG) (E : XK) (f : DT) : TG := fun v σ H Q => ∃ ρ aσ st p, RlE G ρ H aσ σ ∧ RlS G ρ H st ∧ Rl G ρ H p v ∧ Pst G E ρ H (fun aσ' _ ρ' H' => ∀ σ', RlE G ρ' H' aσ' σ' → Q σ' H') (f p aσ st)
def Tgs (G : DG) (E : XK) (f : DTs) : TGs := fun vs σ H Q => ∃ ρ aσ st ps, RlE G ρ H aσ σ ∧ RlS G ρ H st ∧ RlAll G ρ H ps vs ∧ Pst G E ρ H (fun aσ' _ ρ' H' => ∀ σ', RlE G ρ' H' aσ' σ' → Q σ' H') (f ps aσ st)
def EG (X : Cx) (T : TR) (E : XK) (tg : Expr) (f : DT) : Prop := PG X tg (Tg (gOf X T) E f)
def EGs (X : Cx) (T : TR) (E : XK) (tg : List Expr) (f : DTs) : Prop := PGs X tg (Tgs (gOf X T) E f)
theorem pg_imp {tg : Expr} {t t' : TG} (h : PG X tg t) (i : ∀ v σ H Q, t' v σ H Q → t v σ H Q) : PG X tg t' := ⟨fun pins s σ H v u Q I r q => h.run pins s σ H v u Q I r (i v σ H Q q)⟩
theorem pgs_imp {tg : List Expr} {t t' : TGs} (h : PGs X tg t) (i : ∀ v σ H Q, t' v σ H Q → t v σ H Q) : PGs X tg t' := ⟨fun pins s σ H v u Q I r q => h.run pins s σ H v u Q I r (i v σ H Q q)⟩
theorem eg_name (i : Nat) {x : Str} (hN : X.N.Nodup) (hi : X.N[i]? = some x := by rfl) (hx : Loc X.env.scope x := by first | exact Or.inl rfl | exact Or.inr rfl) (hf : X.fn x = true ∨ X.env.scope.names.lookup x = some .local := by first | exact .inl rfl | exact .inr rfl) : EG X T E (.Name x pos) (tName i) := pg_imp (pg_name hN hi hx hf) fun v σ H Q q => by
  obtain ⟨ρ, aσ, st, p, hE, hS, r, h⟩ := q
  exact h.ret hS _ (hE.set r)
theorem egs_nil : EGs X T E [] tNil := pgs_imp pgs_nil fun vs σ H Q q => by
  obtain ⟨ρ, aσ, st, ps, hE, hS, r, h⟩ := q
  unfold tNil at h
  split at h
  · cases r; exact ⟨rfl, h.ret hS _ hE⟩
  · exact h.elim
theorem tg_bind {β : Type} {t : DT} {p : PV} {v : V} {k : AE → Store → Res β} {K : β → Store → List Addr → Hp → Prop} {W : St → Hp → Prop} (hE : RlE G ρ H aσ σ) (hS : RlS G ρ H st) (r : Rl G ρ H p v) (h : Pst G E ρ H K ((t p aσ st).bind k))
    (q : ∀ ρ1 H1 aσ1 σ1 st1, Ext G.T ρ H ρ1 H1 → RlS G ρ1 H1 st1 → RlE G ρ1 H1 aσ1 σ1 → Pst G E ρ1 H1 K (k aσ1 st1) → W σ1 H1) : Tg G E t v σ H W :=
  ⟨ρ, aσ, st, p, hE, hS, r, h.bind.imp fun a st1 ρ1 H1 _ _ z σ' e => q ρ1 H1 a σ' st1 z.1 z.2.1 e z.2.2⟩
theorem egs_cons {tg : Expr} {tgs : List Expr} {t : DT} {ts : DTs} (h1 : EG X T E tg t) (h2 : EGs X T E tgs ts) (hs : (assignEach (tg :: tgs) X.env).map (·.2) = assign tg X.env :: (assignEach tgs X.env).map (·.2) := by rfl) : EGs X T E (tg :: tgs) (tCons t ts) :=
  pgs_imp (pgs_cons h1 h2 hs) fun vs σ H Q q => by
  obtain ⟨ρ, aσ, st, ps, hE, hS, r, h⟩ := q
  cases r with
  | nil => exact h.elim
  | cons r rs =>
    exact ⟨_, _, rfl, tg_bind hE hS r h fun ρ1 H1 aσ1 σ1 st1 x1 s1 e1 h => ⟨ρ1, aσ1, st1, _, e1, s1, rs.ext x1, h⟩⟩
theorem eg_tup {tgs : List Expr} {ts : DTs} {k : Nat} {n : Nat} (hc : X.calm = true) (h : EGs X T E tgs ts) (hn : (assignEach tgs X.env).length = n := by rfl) (hst : (assignEach tgs X.env).findIdx? (·.1) = none := by rfl) : EG X T E (.Tuple tgs k pos) (tTupP n ts) :=
  pg_imp (pg_tup hc h hn hst) fun v σ H Q q => by
  obtain ⟨ρ, aσ, st, p, hE, hS, r, h⟩ := q
  unfold tTupP at h
  split at h
  · split at h
    · rename_i l hl
      cases r with
      | tup q ra => exact ⟨_, _, rfl, q.sq, by rw [← ra.length]; exact hl, ρ, aσ, st, l, hE, hS, ra, h⟩
    · exact h.elim
  · exact h.elim
def rSetA : V → V → V → Hp → (Hp → Prop) → Prop := fun o i v H Q => rSetL o i v H Q ∨ ∃ a H', o = .ref a ∧ DPut H a i v H' ∧ Q H'
theorem set_all (hu : X.A.units + 65 < cLine) : PSet X rSetA := by
  intro pins s σ H o i v ov iv u Q I ro ri rv h
  rcases h with h | ⟨a, H', rfl, g, q⟩
  · exact set_list pins s σ H o i v ov iv u Q I ro ri rv h
  · cases ro
    exact d_setItem (by omega) I g ri rv fun s' I' => ⟨H', I', q⟩
theorem any_keys {κ α β : Type} [DecidableEq κ] (k : κ) : ∀ (es : List (κ × α)) (kvs : List (κ × β)), es.map (·.1) = kvs.map (·.1) → (es.any fun e => decide (e.1 = k)) = kvs.any fun e => decide (e.1 = k)
  | [], [], _ => rfl
  | [], _ :: _, h => by cases h
  | _ :: _, [], h => by cases h
  | (a, x) :: es, (b, y) :: kvs, h => by
    simp only [List.map_cons, List.cons.injEq] at h
    obtain ⟨rfl, h⟩ := h
    simp only [List.any_cons, any_keys k es kvs h]
theorem put_rl {κ : Type} [DecidableEq κ] (k : κ) {p : PV} {v : V} (r : Rl G ρ H p v) {es : List (κ × PV)} {kvs : List (κ × V)} (hk : es.map (·.1) = kvs.map (·.1)) (ra : RlAll G ρ H (es.map (·.2)) (kvs.map (·.2))) :
    (putA es k p).map (·.1) = (putK kvs k v).map (·.1) ∧ RlAll G ρ H ((putA es k p).map (·.2)) ((putK kvs k v).map (·.2)) := by
  unfold putA putK
  rw [any_keys k es kvs hk]
  split
  · rename_i hany
    clear hany
    induction es generalizing kvs with
    | nil =>
      cases kvs with
      | nil => exact ⟨rfl, .nil⟩
      | cons _ _ => cases hk
    | cons e es ih =>
      cases kvs with
      | nil => cases hk
      | cons f kvs =>
        obtain ⟨a, x⟩ := e
        obtain ⟨b, y⟩ := f
        simp only [List.map_cons, List.cons.injEq] at hk
        obtain ⟨rfl, hk⟩ := hk
        simp only [List.map_cons] at ra
        cases ra with
        | cons r1 r2 =>
          obtain ⟨h1, h2⟩ := ih hk r2
          simp only [List.map_cons]
          refine ⟨?_, ?_⟩
          · rw [h1]
            split <;> rfl
          · split
            · exact .cons r h2
            · exact .cons r1 h2
  · simp only [List.map_append, List.map_cons, List.map_nil]
    exact ⟨by rw [hk], ra.append (.cons r .nil)⟩
theorem set_rl {o i p : PV} {ov iv v : V} {W : Hp → Prop} (hS : RlS G ρ H st) (ro : Rl G ρ H o ov) (ri : Rl G ρ H i iv) (rp : Rl G ρ H p v)
    (h : Pst G E ρ H (fun _ st' ρ' H' => Ext G.T ρ H ρ' H' → W H') (pSet o i p st)) : rSetA ov iv v H W := by
  unfold pSet at h
  split at h
  · rename_i n
    split at h
    · rename_i es e
      split at h
      · rename_i k ek
        split at h
        · rename_i hz
          cases ro with
          | @ref _ a q =>
            cases hS.ref q e with
            | @dK _ _ kvs hh hk ra =>
              have z := congrArg List.length hk
              simp only [List.length_map] at z
              have x : Ext G.T ρ H ρ (upd H a (.dK (putK kvs k v))) := ext_set hS (List.mem_of_getElem? q) hh trivial
              obtain ⟨h1, h2⟩ := put_rl k rp hk ra
              refine .inr ⟨_, _, rfl, .inl ⟨kvs, k, hh, kOf_v ek ri, by rw [SZ_eq, ← z]; exact hz, rfl⟩, h ρ _ x (hS.set q e hh trivial (.dK upd_same h1 (h2.ext x))) x⟩
        · exact h.elim
      · exact h.elim
    · rename_i es e
      split at h
      · split at h
        · exact h.elim
        · rename_i hw
          split at h
          · rename_i k ek
            split at h
            · rename_i hz
              cases ro with
              | @ref _ a q =>
                cases hS.ref q e with
                | @dT _ _ kvs hh hk ra =>
                  have z := congrArg List.length hk
                  simp only [List.length_map] at z
                  obtain ⟨b, rfl, hb⟩ := tv_key (by simpa using hw) ek ri
                  have x : Ext G.T ρ H ρ (upd H a (.dT (putK kvs k v))) := ext_set hS (List.mem_of_getElem? q) hh trivial
                  obtain ⟨h1, h2⟩ := put_rl k rp hk ra
                  refine .inr ⟨_, _, rfl, .inr ⟨kvs, k, b, hh, rfl, hb, by rw [SZ_eq, ← z]; exact hz, rfl⟩, h ρ _ x (hS.set q e hh trivial (.dT upd_same h1 (h2.ext x))) x⟩
            · exact h.elim
          · exact h.elim
      · exact h.elim
    · rename_i l e
      split at h
      · rename_i k
        cases ri
        split at h
        · rename_i j ej
          cases ro with
          | @ref _ a q =>
            cases hS.ref q e with
            | @lst _ _ xs hh ra =>
              have x : Ext G.T ρ H ρ (upd H a (.lst (xs.set j v))) := ext_set hS (List.mem_of_getElem? q) hh trivial
              refine .inl ⟨_, xs, k, j, rfl, rfl, hh, by rw [← ra.length]; exact ej, h ρ _ x (hS.set q e hh trivial (.lst upd_same ((ra.set rp j).ext x))) x⟩
        · exact h.elim
      · exact h.elim
    · exact h.elim
  · exact h.elim
theorem eg_sub {o i : Expr} {fo fi : DE} (hu : X.A.units + 65 < cLine) (ho : EV X T E o fo) (hi : EV X T E i fi)
    (ha : ∀ v, assign (.Subscript o i pos) X.env v = (holding [v] (eval o X.env) >>= fun ov => holding [v, ov] (eval i X.env) >>= fun iv => standAt pos >>= fun _ => holding [v, ov, iv] (setItem ov iv v) >>= fun _ => release [v, ov, iv] []) := by intro _; rfl) :
    EG X T E (.Subscript o i pos) (tSub fo fi) := pg_imp (pg_sub ho hi (set_all hu) ha) fun v σ H Q q => by
  obtain ⟨ρ, aσ, st, p, hE, hS, r, h⟩ := q
  refine tv_bind hE hS h fun ρ1 H1 x ov st1 x1 s1 e1 rx h => tv_bind e1 s1 h fun ρ2 H2 y iv st2 x2 s2 e2 ry h => ?_
  refine set_rl s2 (rx.ext x2) ry ((r.ext x1).ext x2) (h.bind.imp fun _ st3 ρ3 H3 _ _ z x3 => ?_)
  exact z.2.2.ret z.2.1 _ (e2.ext x3)
variable {s : Stmt} {ss : List Stmt} {g h : DS} {cb : DB}
theorem es_break : ES X T E (.Break pos) sBreak := ps_imp ps_break fun D σ H q => by
  obtain ⟨ρ, aσ, st, hE, hS, h⟩ := q
  exact h.ret hS _ hE
theorem ess_nil : ESs X T E [] sNext := pss_imp pss_nil fun D σ H q => by
  obtain ⟨ρ, aσ, st, hE, hS, h⟩ := q
  exact h.ret hS _ hE
theorem ts_seq {D : Ends} (q : Ts G E (sSeq g h) D σ H) : Ts G E g { D with nx := Ts G E h D } σ H := by
  obtain ⟨ρ, aσ, st, hE, hS, h⟩ := q
  refine ⟨ρ, aσ, st, hE, hS, h.bind.imp fun r st1 ρ1 H1 _ _ z σ1 e1 => ?_⟩
  obtain ⟨x1, s1, z⟩ := z
  obtain ⟨fl, aσ1⟩ := r
  cases fl with
  | nx => exact ⟨ρ1, aσ1, st1, e1, s1, z⟩
  | bk => exact z.ret s1 σ1 e1
  | ct => exact z.ret s1 σ1 e1
  | rt v => exact z.ret s1 σ1 e1
theorem ess_cons (h1 : ES X T E s g) (h2 : ESs X T E ss h) : ESs X T E (s :: ss) (sSeq g h) := pss_imp (pss_cons h1 h2) fun D σ H q => ts_seq q
theorem ess_one (h1 : ES X T E s g) : ESs X T E [s] g := pss_one h1
theorem es_expr (ha : EV X T E a fa) (hs : swapsWith a none pos.line X.env = pure false := by rfl) : ES X T E (.Expr a pos) (sExpr fa) := ps_imp (ps_expr ha hs) fun D σ H q => by
  obtain ⟨ρ, aσ, st, hE, hS, h⟩ := q
  exact tv_bind hE hS h fun ρ1 H1 x v st1 x1 s1 e1 rx h => h.ret s1 _ e1
theorem es_ret (ha : EV X T E a fa) : ES X T E (.Return (some a) pos) (sRet fa) := ps_imp (ps_ret ha) fun D σ H q => by
  obtain ⟨ρ, aσ, st, hE, hS, h⟩ := q
  exact tv_bind hE hS h fun ρ1 H1 x v st1 x1 s1 e1 rx h => h.ret s1 _ e1 v rx
theorem es_if {sa sb : List Stmt} (hc : EB X T E c cb) (ha : ESs X T E sa g) (hb : ESs X T E sb h) : ES X T E (.If c sa sb pos) (sIf cb g h) := ps_imp (ps_if hc ha hb) fun D σ H q => by
  obtain ⟨ρ, aσ, st, hE, hS, h⟩ := q
  refine tb_bind hE hS h fun ρ1 H1 b st1 _ s1 e1 h => ?_
  cases b with
  | true => exact ite_tt ⟨ρ1, aσ, st1, e1, s1, h⟩
  | false => exact ite_ff ⟨ρ1, aσ, st1, e1, s1, h⟩
theorem es_asg {tg : Expr} {t : DT} (ha : EV X T E a fa) (hg : EG X T E tg t) (hs : swapsWithSole [tg] a pos.line X.env = pure false := by rfl) (hw : swappedStores [tg] a X.env = pure none := by rfl)
    (h1 : (assignEach [tg] X.env).map (·.2) = [assign tg X.env] := by rfl) : ES X T E (.Assign [tg] a pos) (sAsg fa t) := ps_imp (ps_asg ha hg hs hw h1) fun D σ H q => by
  obtain ⟨ρ, aσ, st, hE, hS, h⟩ := q
  exact tv_bind hE hS h fun ρ1 H1 x v st1 x1 s1 e1 rx h => tg_bind e1 s1 rx h fun ρ2 H2 aσ2 σ2 st2 x2 s2 e2 h => h.ret s2 _ e2
theorem es_set (i : Nat) {x : Str} {pos' : Pos} (hN : X.N.Nodup) (ha : EV X T E a fa) (hi : X.N[i]? = some x := by rfl) (hx : Loc X.env.scope x := by first | exact Or.inl rfl | exact Or.inr rfl) (hf : X.fn x = true ∨ X.env.scope.names.lookup x = some .local := by first | exact .inl rfl | exact .inr rfl)
    (hs : swapsWithSole [.Name x pos'] a pos.line X.env = pure false := by rfl) (hw : swappedStores [.Name x pos'] a X.env = pure none := by rfl) : ES X T E (.Assign [.Name x pos'] a pos) (sAsg fa (tName i)) :=
  es_asg ha (eg_name i hN hi hx hf) hs hw rfl
def Wk (G : DG) (ρ0 : List Addr) (H0 : Hp) (J : It) (l : List PV) (ok : Store → Bool) : Prop := ∀ T' ρ H st, Mv G.T ρ0 H0 T' ρ H → RlS ⟨G.K, G.mg, T'⟩ ρ H st → ok st = true →
  (∀ i, i < l.length → J.go i H) ∧ J.stop l.length H ∧ ∀ i x H' p, l[i]? = some p → J.yld i H x H' → Ext T' ρ H ρ H' ∧ RlS ⟨G.K, G.mg, T'⟩ ρ H' st ∧ Rl ⟨G.K, G.mg, T'⟩ ρ H' p x
def Ti (G : DG) (E : XK) (f : DI) : TI := fun σ H R => ∃ ρ aσ st, RlE G ρ H aσ σ ∧ RlS G ρ H st ∧ Pst G E ρ H (fun r st' ρ' H' => ∀ J, Wk G ρ' H' J r.1 r.2 → R J H') (f aσ st)
def EI (X : Cx) (T : TR) (E : XK) (tg iter : Expr) (f : DI) : Prop := PI X tg iter (Ti (gOf X T) E f)
theorem pi_imp {tg iter : Expr} {w w' : TI} (h : PI X tg iter w) (i : ∀ σ H R, w' σ H R → w σ H R) : PI X tg iter w' := ⟨fun pins s σ H R I q => h.run pins s σ H R I (i σ H R q)⟩
theorem ti_bind {β : Type} {f : DI} {k : Src → Store → Res β} {K : β → Store → List Addr → Hp → Prop} {R : It → Hp → Prop} (hE : RlE G ρ H aσ σ) (hS : RlS G ρ H st) (h : Pst G E ρ H K ((f aσ st).bind k))
    (q : ∀ ρ1 H1 r st1 J, Ext G.T ρ H ρ1 H1 → RlS G ρ1 H1 st1 → RlE G ρ1 H1 aσ σ → Wk G ρ1 H1 J r.1 r.2 → Pst G E ρ1 H1 K (k r st1) → R J H1) : Ti G E f σ H R :=
  ⟨ρ, aσ, st, hE, hS, h.bind.imp fun r st1 ρ1 H1 _ _ z J w => q ρ1 H1 r st1 J z.1 z.2.1 (hE.ext z.1) w z.2.2⟩
theorem drop_some {α : Type} {l : List α} {i : Nat} (h : i < l.length) : l.drop i = l[i] :: l.drop (i + 1) := by rw [List.drop_eq_getElem_cons h]
theorem es_for {tg iter : Expr} {body : List Stmt} {src : DI} {t : DT} {b : DS} (w : List Nat) (hp : PassesOwn (model X.prog X.w) X.A X.env X.xe) (hc : X.calm = true) (hi : EI X T E tg iter src) (hg : EG X T E tg t) (hb : ESs X T E body b)
    (hs : ∀ x, foldedSetIterable iter X.env x = pure x := by intro _; rfl) : ES X T E (.For tg iter body [] pos) (sFor src t b w) := ps_imp (ps_for hp hc hi hg hb hs) fun D σ H q => by
  obtain ⟨ρ, aσ, st, hE, hS, h⟩ := q
  refine ti_bind hE hS h fun ρ0 H0 r st0 J x0 s0 e0 wk h => ?_
  obtain ⟨l, ok⟩ := r
  refine ⟨fun i m σ H => m = l.length - i ∧ i ≤ l.length ∧ ∃ ρ aσ st, Ext T ρ0 H0 ρ H ∧ RlE (gOf X T) ρ H aσ σ ∧ RlS (gOf X T) ρ H st ∧ Pst (gOf X T) E ρ H (KS (gOf X T) D) (forL t b w ok (l.drop i) aσ st), ⟨l.length, by simp, Nat.zero_le _, ρ0, aσ, st0, Ext.refl, e0, s0, h⟩, ?_⟩
  rintro i m σ H ⟨rfl, hil, ρ, aσ, st, x, e, s, h⟩
  by_cases hlt : i < l.length
  · rw [drop_some hlt] at h
    unfold forL at h
    split at h
    · rename_i hok
      obtain ⟨h1, h2, h3⟩ := wk T ρ H st x.mv s hok
      refine .inr ⟨h1 i hlt, fun σ' H' => ∃ ρ' aσ' st', Ext T ρ0 H0 ρ' H' ∧ RlE (gOf X T) ρ' H' aσ' σ' ∧ RlS (gOf X T) ρ' H' st' ∧ Pst (gOf X T) E ρ' H' (KS (gOf X T) D) (forL t b w ok (l.drop (i + 1)) aσ' st'), fun σ' H' q => ⟨l.length - (i + 1), by omega, rfl, hlt, q⟩, fun v H' y => ?_⟩
      obtain ⟨x1, s1, r1⟩ := h3 i v H' l[i] (List.getElem?_eq_getElem hlt) y
      refine tg_bind (e.ext x1) s1 r1 (h.base x1) fun ρ2 H2 aσ2 σ2 st2 x2 s2 e2 h => ?_
      refine ⟨ρ2, aσ2, st2, e2, s2, h.bind.imp fun r' st3 ρ3 H3 _ _ z σ3 e3 => ?_⟩
      obtain ⟨x3, s3, z⟩ := z
      obtain ⟨fl, aσ3⟩ := r'
      cases fl with
      | nx => exact ⟨ρ3, _, st3, ((x.trans x1).trans x2).trans x3, e3.wipe w, s3, z⟩
      | ct => exact ⟨ρ3, _, st3, ((x.trans x1).trans x2).trans x3, e3.wipe w, s3, z⟩
      | bk => exact z.ret s3 σ3 (e3.wipe w)
      | rt v => exact z.ret s3 σ3 e3
    · exact h.elim
  · have ei : i = l.length := by omega
    subst ei
    rw [List.drop_length] at h
    unfold forL at h
    split at h
    · rename_i hok
      obtain ⟨h1, h2, h3⟩ := wk T ρ H st x.mv s hok
      exact .inl ⟨h2, h.ret s σ (e.wipe w)⟩
    · exact h.elim
theorem es_while {body : List Stmt} {b : DS} (w : List Nat) (hp : PassesOwn (model X.prog X.w) X.A X.env X.xe) (hc : EB X T E c cb) (hb : ESs X T E body b) : ES X T E (.While c body [] pos) (sWhile cb b w) := ps_imp (ps_while hp hc hb) fun D σ H q => by
  obtain ⟨ρ, aσ, st, hE, hS, h⟩ := q
  unfold sWhile at h
  split at h
  · rename_i hn
    refine ⟨fun m σ H => ∃ ρ aσ st, RlE (gOf X T) ρ H aσ σ ∧ RlS (gOf X T) ρ H st ∧ Pst (gOf X T) E ρ H (KS (gOf X T) D) (whileN cb b w m aσ st), ⟨_, ρ, aσ, st, hE, hS, h⟩, ?_⟩
    rintro m σ H ⟨ρ, aσ, st, e, s, h⟩
    cases m with
    | zero => exact h.elim
    | succ m =>
      unfold whileN at h
      refine tb_bind e s h fun ρ1 H1 k st1 x1 s1 e1 h => ?_
      cases k with
      | true =>
        refine ite_tt ⟨fun σ' H' => ∃ ρ aσ st, RlE (gOf X T) ρ H' aσ σ' ∧ RlS (gOf X T) ρ H' st ∧ Pst (gOf X T) E ρ H' (KS (gOf X T) D) (whileN cb b w m aσ st), fun σ' H' q => ⟨m, Nat.lt_succ_self m, q⟩, ρ1, aσ, st1, e1, s1, ?_⟩
        have h : Pst (gOf X T) E ρ1 H1 (KS (gOf X T) D) ((b aσ st1).bind _) := h
        refine h.bind.imp fun r' st3 ρ3 H3 _ _ z σ3 e3 => ?_
        obtain ⟨x3, s3, z⟩ := z
        obtain ⟨fl, aσ3⟩ := r'
        cases fl with
        | nx => exact ⟨ρ3, _, st3, e3.wipe w, s3, z⟩
        | ct => exact ⟨ρ3, _, st3, e3.wipe w, s3, z⟩
        | bk => exact z.ret s3 σ3 (e3.wipe w)
        | rt v => exact z.ret s3 σ3 e3
      | false => exact ite_ff (h.ret s1 σ e1)
  · exact h.elim
end
end DN
namespace PySem
open Sem (wp)
theorem dn_enumT (l : Addr) (items : Array Value) (o : Obj) (n : Nat) (hc : o.cls = .type "tuple") (hd : o.data = .seq items n) :
    Meets (Builtin.«enumerate.__new__» ⟨[.type "enumerate", .ref l], []⟩) (fun _ R s => s.heap.get? l = some o ∧
      R (.ok (.ret (.ref (s.heap.push { cls := .type "tuple_iterator", data := .fields #[.ref l, .int 0 0] }).objs.size)))
        { s with heap := (s.heap.push { cls := .type "tuple_iterator", data := .fields #[.ref l, .int 0 0] }).push { cls := .type "enumerate", data := .fields #[.none, .bool false, .ref s.heap.objs.size, rawInt 0, .none, .none] } }) :=
  .of_wp fun prog w A R s hh => by
    obtain ⟨hp, g, dr, tk, os⟩ := s
    obtain ⟨ht, hq⟩ := hh
    have hsub := sub_enumerate
    have hT : Heap.IsTuple (Shared.heap ⟨hp, g, dr, tk, os⟩) l items := ⟨o, ht, hc, n, hd⟩
    wp_walk
    refine wpAny_stack_any fun st => wpAny_pure ?_
    split
    · rename_i c _ _ _ _ _
      cases (c == Value.type "enumerate") <;> (wp_walk using wpAny_pyIter_tuple hT; exact ⟨_, rfl, hq⟩)
    · wp_walk using wpAny_pyIter_tuple hT
      exact ⟨_, rfl, hq⟩
theorem dn_call_enumT {prog : Program} {w : World} {A : Around} {E : Value → Shared → Prop} {s : Shared} {l : Addr} {items : Array Value} {Q : Value → Shared → Prop} (ht : s.heap.IsTuple l items)
    (q : ∀ h', IsEnum h' (s.heap.objs.size + 1) s.heap.objs.size 0 .none → h'.IsTupleIter s.heap.objs.size l 0 → (∀ b o, s.heap.get? b = some o → h'.get? b = some o) → Q (.ref (s.heap.objs.size + 1)) { s with heap := h' }) :
    wpAny (model prog w) A (call (.type "enumerate") [.ref l]) Q E s := by
  obtain ⟨o, hl, hc, n, hd⟩ := ht
  refine callType_new F.called_enumerate (by decide) (F.typeCall_enumerate_1 _) (F.newCall_enumerate_1 _) (fun obj => F.args_object_init_2 obj _) F.entry_enumerate_new (dn_enumT l items o n hc hd) ⟨hl, ?_⟩
  have hz : (s.heap.push { cls := .type "tuple_iterator", data := .fields #[.ref l, .int 0 0] }).objs.size = s.heap.objs.size + 1 := Heap.size_push ..
  show _ ∧ _
  rw [hz]
  have he : IsEnum ((s.heap.push { cls := .type "tuple_iterator", data := .fields #[.ref l, .int 0 0] }).push { cls := .type "enumerate", data := .fields #[.none, .bool false, .ref s.heap.objs.size, rawInt 0, .none, .none] }) (s.heap.objs.size + 1) s.heap.objs.size 0 .none := by
    have z := Heap.get?_push_size (s.heap.push { cls := .type "tuple_iterator", data := .fields #[.ref l, .int 0 0] }) (o := { cls := .type "enumerate", data := .fields #[.none, .bool false, .ref s.heap.objs.size, rawInt 0, .none, .none] }) rfl
    rwa [hz] at z
  exact ⟨⟨_, he, rfl⟩, q _ he ⟨_, Heap.get?_push_of_some _ (Heap.get?_push_size _ rfl), rfl, rfl⟩ fun b ob x => Heap.get?_push_of_some _ (Heap.get?_push_of_some _ x)⟩
end PySem
namespace DN
open PySem PySem.Spec PyProof.Rows L2
def IteT (K : PySem.W.Frag) (a : Addr) : It :=
  ⟨fun i H => ∃ (xs : List V) (x : V), SqT K H a xs ∧ xs[i]? = some x, fun i H v H' => ∃ T x, v = .ref T ∧ H T = none ∧ H' = upd H T (.tup [.int (i : Nat), x]) ∧ ∀ xs, SqT K H a xs → xs[i]? = some x, fun i H => ∃ xs : List V, SqT K H a xs ∧ xs.length ≤ i⟩
theorem turn_enumT {P : Program} {w : World} {K : PySem.W.Frag} {elts : List Expr} {kk : Nat} {tpos : Pos} (a e it : Addr) :
    Turn P w K (.Tuple elts kk tpos) (IteT K a) [e, it] e (fun i h => (∃ old, IsEnum h e it ((i : Nat) : Int) old) ∧ h.IsTupleIter it a i ∧ e ≠ it) where
  mem := by simp
  obj := fun i h st b hb => by
    obtain ⟨⟨old, he⟩, ⟨o, ho, hc, hd⟩, _⟩ := st
    rcases (show b = e ∨ b = it by simpa using hb) with rfl | rfl
    · exact ⟨_, he, fun v q => nomatch q⟩
    · exact ⟨o, ho, fun v q => by rw [hd] at q; cases q⟩
  keep := fun i h h' st k => ⟨let ⟨old, he⟩ := st.1; ⟨old, k e (by simp) _ he⟩, st.2.1.at fun o q => k it (by simp) o q, st.2.2⟩
  item := by
    intro X hP hw hK hc i pins s σ H E I hf st hg
    subst hP hw hK
    obtain ⟨⟨old, he⟩, hit, hne⟩ := st
    obtain ⟨xs, x, hq, hx⟩ := hg
    obtain ⟨its, rv, p, hz⟩ := I.tuple hq
    have pt : s.heap.IsTuple a its.toArray := p
    obtain ⟨u, hu, ru⟩ := rv.get hx
    have hel : e < s.heap.objs.size := Heap.lt_size he
    have hil : it < s.heap.objs.size := by obtain ⟨_, q, _⟩ := hit; exact Heap.lt_size q
    have hae : a ≠ e := fun z => by
      obtain ⟨ot, h1, h2, _⟩ := pt
      rw [z, show s.heap.get? e = _ from he] at h1
      cases h1
      simp at h2
    have hai : a ≠ it := fun z => by
      obtain ⟨ot, h1, h2, _⟩ := pt
      obtain ⟨oi, h3, h4, _⟩ := hit
      rw [z, h3] at h1
      cases h1
      rw [h4] at h2
      simp at h2
    have D := Draws.tuple (prog := X.prog) (w := X.w) (A := X.A.in1) (I.ok.hd hc) it a hai its.toArray
    have hin : i < its.toArray.size := by
      have := (List.getElem?_eq_some_iff.mp hu).1
      simpa using this
    refine wpAny_pyNext_enum_itemD D he ⟨hit, pt⟩ hin hne (by simp [Ne.symm hae, hne]) fun u2 h' tk hu2 ho hit' hT hsz hk => ?_
    have eu : u2 = u := by
      have h1 : its[i]? = some u2 := by simpa using hu2
      rw [hu] at h1
      exact (Option.some.inj h1).symm
    subst eu
    refine ⟨_, rfl, wpAny_letOwnedTupleGo_enum (s := { s with heap := h', toks := tk + 1 }) ho fun h'' he' sb => ?_⟩
    have hT2 : h''.get? s.heap.objs.size = some { cls := .type "tuple", data := .seq #[.int i tk, u2] } := (sb.2 _ (Nat.ne_of_gt hel)).trans hT
    have new : ObjOk X.prog X.w (upd H s.heap.objs.size (.tup [.int (i : Nat), x])) h'' s.heap.objs.size (.tup [.int (i : Nat), x]) :=
      ⟨by show 2 ≤ sizeLine; decide, [.int i tk, u2], .cons ⟨_, rfl⟩ (.cons ru .nil), ⟨_, hT2, rfl, _, rfl⟩⟩
    have I1 : Inv X pins σ (upd H s.heap.objs.size (.tup [.int (i : Nat), x])) { s with heap := h'', toks := tk + 1 } :=
      I.turnedNew (ch := [e, it]) (fun b ob hb q => (sb.2 b (fun z => hb (by simp [z]))).trans (hk b ob (fun z => hb (by simp [z])) (fun z => hb (by simp [z])) q)) hf (Nat.le_refl _) new
    have st2 : h''.IsTupleIter it a (i + 1) := hit'.1.at fun o q => (sb.2 it (Ne.symm hne)).trans q
    refine ⟨.ref s.heap.objs.size, _, I1, rfl, ⟨_, x, rfl, I.hok.fresh (Nat.le_refl _), rfl, fun ys hy => by rw [I.tuple_inj hy hq]; exact hx⟩, ⟨⟨u2, ?_⟩, st2, hne⟩, fun b hb => ?_⟩
    · rw [show ((i + 1 : Nat) : Int) = (i : Int) + 1 by omega]
      exact he'
    · have hb' : b < s.heap.objs.size := by
        rcases (show b = e ∨ b = it by simpa using hb) with rfl | rfl
        · exact hel
        · exact hil
      rw [upd_ne (Nat.ne_of_lt hb')]
      exact (hf b hb).1
  done := by
    intro X hP hw hK hc i pins s σ H E I hf st hg
    subst hP hw hK
    obtain ⟨⟨old, he⟩, hit, hne⟩ := st
    obtain ⟨xs, hq, hx⟩ := hg
    obtain ⟨its, rv, p, hz⟩ := I.tuple hq
    have pt : s.heap.IsTuple a its.toArray := p
    obtain ⟨f0, f1, f2, f3, f4, f5⟩ := hf it (by simp)
    have hl := rv.length
    have hT : s.TypeIs (.ref e) "enumerate" := ⟨_, he, rfl⟩
    unfold pyNext
    refine wpAny_bind (wpAny_attempt (wpAny_callSpecial?_slot (name := Str.ofString "__next__") hT F.slot_enumerate_next
      (wpAny_call_entry F.slot_enumerate_next hT F.entry_enumerate_next ?_ (F.args_enumerate_next_1 _))))
    refine wpAny_bind (m := field (.ref e) 2) (wpAny_field he rfl (x := .ref it) rfl ?_)
    refine wpAny_bind (wpAny_nextOf_tuple_end (I.ok.hd hc) hit pt (by simp; omega) fun h' x eb hx' => ?_)
    obtain ⟨o, ho, hcl⟩ := hx'
    refine wpAny_bind (wpAny_isInstance (T := "StopIteration") (b := true) ⟨o, ho, hcl⟩ isSubtype_stop ?_)
    exact wpAny_pure ⟨rfl, I.turned (t' := s.toks) (fun b o hb q => eb b o hb q) f0 f1 f3 f4 f5⟩
  self := fun A i s Q E st h => let ⟨⟨_, he⟩, _⟩ := st; wpAny_pyIter_enum he h
section
variable {X : Cx} {T : TR} {E : XK} {G : DG} {ρ : List Addr} {H : Hp} {σ : St} {aσ : AE} {st : Store}
variable {tg a b e : Expr} {fa fb f : DE} {pos p : Pos}
theorem pi_or {iter : Expr} {w w' : TI} (h : PI X tg iter w) (h' : PI X tg iter w') : PI X tg iter (fun σ H R => w σ H R ∨ w' σ H R) :=
  ⟨fun pins s σ H R I q => q.elim (h.run pins s σ H R I) (h'.run pins s σ H R I)⟩
theorem wk_tup {ρ0 : List Addr} {H0 : Hp} {a : Addr} {l : List PV} {xs : List V} {f : Bool} (q : TV G.K H0 (isW l) f a xs) (ra : RlAll G ρ0 H0 l xs) : Wk G ρ0 H0 (Itt G.K a) l fun _ => true := fun T' ρ H st x s _ => by
  have q' : SqT G.K H a xs := TV.sq (q.elim (fun ⟨o, p, z⟩ => .inl ⟨o, p, x.tups _ _ (mkT_tu _ _ _) z⟩) .inr)
  have ra' := RlAll.mv (K := G.K) (mg := G.mg) x ra
  refine ⟨fun i hi => ?_, ⟨xs, q', Nat.le_of_eq ra.length.symm⟩, fun i v H' p hp y => ?_⟩
  · obtain ⟨v, hv, _⟩ := ra'.get (List.getElem?_eq_getElem hi)
    exact ⟨xs, v, q', hv⟩
  · obtain ⟨rfl, y⟩ := y
    obtain ⟨w, hw, r⟩ := ra'.get hp
    have e := y xs q'
    rw [hw] at e
    cases e
    exact ⟨Ext.refl, s, r⟩
theorem wk_lst {ρ0 : List Addr} {H0 : Hp} {a : Addr} {l : List PV} {xs : List V} (q : LV G.T ρ0 H0 a xs) (ra : RlAll G ρ0 H0 l xs) : Wk G ρ0 H0 (Itl G.K a) l fun _ => true := fun T' ρ H st x s _ => by
  have q' : SqL G.K H a xs := .inl (x.keep _ _ q.1 q.2 (fun _ z => by cases z)).1
  have ra' := RlAll.mv (K := G.K) (mg := G.mg) x ra
  refine ⟨fun i hi => ?_, ⟨xs, q', Nat.le_of_eq ra.length.symm⟩, fun i v H' p hp y => ?_⟩
  · obtain ⟨v, hv, _⟩ := ra'.get (List.getElem?_eq_getElem hi)
    exact ⟨xs, v, q', hv⟩
  · obtain ⟨rfl, y⟩ := y
    obtain ⟨w, hw, r⟩ := ra'.get hp
    have e := y xs q'
    rw [hw] at e
    cases e
    exact ⟨Ext.refl, s, r⟩
open Classical in
theorem wk_ref {ρ0 : List Addr} {H0 : Hp} {n : Nat} {a : Addr} {l : List PV} (h : ρ0[n]? = some a) : Wk G ρ0 H0 (Itl G.K a) l fun st => decide (st[n]? = some (.lst l)) := fun T' ρ H st x s ok => by
  have es : st[n]? = some (.lst l) := of_decide_eq_true ok
  have ea : ρ[n]? = some a := by
    cases Rl.mv (K := G.K) (mg := G.mg) x (Rl.ref h) with
    | ref q => exact q
  have ro := s.ref ea es
  obtain ⟨xs, hh, ra⟩ : ∃ xs, H a = some (.lst xs) ∧ RlAll ⟨G.K, G.mg, T'⟩ ρ H l xs := by
    cases ro with
    | lst hh ra => exact ⟨_, hh, ra⟩
  have q' : SqL G.K H a xs := .inl (.inl hh)
  refine ⟨fun i hi => ?_, ⟨xs, q', Nat.le_of_eq ra.length.symm⟩, fun i v H' p hp y => ?_⟩
  · obtain ⟨v, hv, _⟩ := ra.get (List.getElem?_eq_getElem hi)
    exact ⟨xs, v, q', hv⟩
  · obtain ⟨rfl, y⟩ := y
    obtain ⟨w, hw, r⟩ := ra.get hp
    have e := y xs q'
    rw [hw] at e
    cases e
    exact ⟨Ext.refl, s, r⟩
theorem wk_str {ρ0 : List Addr} {H0 : Hp} {z : Str} : Wk G ρ0 H0 (Its z) (z.cps.toList.map fun c => PV.str ⟨#[c]⟩) fun _ => true := fun T' ρ H st x s _ => by
  refine ⟨fun i hi => by show i < z.cps.size; simpa using hi, by show z.cps.size ≤ _; simp, fun i v H' p hp y => ?_⟩
  obtain ⟨rfl, c, hc, rfl⟩ := y
  rw [List.getElem?_map] at hp
  have e : z.cps.toList[i]? = some c := by simpa using hc
  rw [e] at hp
  cases hp
  exact ⟨Ext.refl, s, .str _⟩
theorem wk_rg {ρ0 : List Addr} {H0 : Hp} {lo hi : Int} : Wk G ρ0 H0 (Itr lo (hi - lo).toNat) (rgP lo hi) fun _ => true := fun T' ρ H st x s _ => by
  have hl : (rgP lo hi).length = (hi - lo).toNat := by simp [rgP]
  refine ⟨fun i hi => by rw [hl] at hi; exact hi, by rw [hl]; exact Nat.le_refl _, fun i v H' p hp y => ?_⟩
  obtain ⟨rfl, rfl⟩ := y
  unfold rgP at hp
  rw [List.getElem?_map] at hp
  obtain ⟨j, hj, rfl⟩ := Option.map_eq_some_iff.mp hp
  have ej : j = i := by
    rw [List.getElem?_range (by have := (List.getElem?_eq_some_iff.mp hj).1; simpa using this)] at hj
    exact (Option.some.inj hj).symm
  subst ej
  exact ⟨Ext.refl, s, .int _⟩
theorem ei_seq (ha : EV X T E a fa) : EI X T E tg a (iSeq fa) := pi_imp (pi_or (pi_or (pi_list ha) (pi_tup ha)) (pi_str ha)) fun σ H R q => by
  obtain ⟨ρ, aσ, st, hE, hS, h⟩ := q
  have key : ∀ W : VK, (∀ ρ1 H1 x v st1, Ext T ρ H ρ1 H1 → RlS (gOf X T) ρ1 H1 st1 → RlE (gOf X T) ρ1 H1 aσ σ → Rl (gOf X T) ρ1 H1 x v → fa aσ st = .ok x st1 → Pst (gOf X T) E ρ1 H1 (fun r _ ρ' H' => ∀ J, Wk (gOf X T) ρ' H' J r.1 r.2 → R J H') (srcOf x st1) → W v H1) → Tv (gOf X T) E fa σ H W := fun W k => by
    refine ⟨ρ, aσ, st, hE, hS, ?_⟩
    have h := h.bind
    cases q : fa aσ st with
    | ok x st1 =>
      rw [q] at h
      exact fun ρ1 H1 x1 s1 v r => k ρ1 H1 x v st1 x1 s1 (hE.ext x1) r q (h ρ1 H1 x1 s1).2.2
    | exc c w st1 => rw [q] at h; exact h
    | fail => rw [q] at h; exact h
  cases q : fa aσ st with
  | ok x st1 =>
    have sub : ∀ {x' : PV} {st2 : Store}, fa aσ st = .ok x' st2 → x' = x := fun e => by rw [q] at e; cases e; rfl
    cases x with
    | tup l =>
      refine .inl (.inr (key _ fun ρ1 H1 x v st1 x1 s1 e1 r qq h => ?_))
      cases sub qq
      cases r with
      | tup q ra => exact ⟨_, rfl, ⟨_, q.sq⟩, h.ret s1 _ (wk_tup q ra)⟩
    | lst l =>
      refine .inl (.inl (key _ fun ρ1 H1 x v st1 x1 s1 e1 r qq h => ?_))
      cases sub qq
      cases r with
      | lst q ra => exact ⟨_, rfl, ⟨_, q.sq⟩, h.ret s1 _ (wk_lst q ra)⟩
    | ref n =>
      refine .inl (.inl (key _ fun ρ1 H1 x v st1 x1 s1 e1 r qq h => ?_))
      cases sub qq
      unfold srcOf at h
      cases r with
      | ref q =>
        dsimp only at h
        split at h
        · rename_i l e
          cases s1.ref q e with
          | lst hh ra => exact ⟨_, rfl, ⟨_, .inl (.inl hh)⟩, h.ret s1 _ (wk_ref q)⟩
        · exact h.elim
    | str z =>
      refine .inr (key _ fun ρ1 H1 x v st1 x1 s1 e1 r qq h => ?_)
      cases sub qq
      cases r
      exact ⟨_, rfl, h.ret s1 _ wk_str⟩
    | _ =>
      refine .inl (.inl (key _ fun ρ1 H1 x v st1 x1 s1 e1 r qq h => ?_))
      cases sub qq
      exact h.elim
  | exc c w st1 =>
    refine .inl (.inl (key _ fun ρ1 H1 x v st1 x1 s1 e1 r qq h => ?_))
    rw [q] at qq
    cases qq
  | fail =>
    unfold iSeq at h
    rw [q] at h
    exact h.elim
theorem rgOk_b {i : Int} (h : rgOk i = true) : -(2 ^ 62) ≤ i ∧ i < 2 ^ 62 := by
  have h := of_decide_eq_true h
  omega
theorem ei_rg1 (hg : Gl X "range") (hm : X.mg "range" = none) (ha : EV X T E a fa) (hs : starEach [a] X.env = [(false, eval a X.env)] := by rfl) : EI X T E tg (.Call (.Name "range" p) [a] [] pos) (iRg1 fa) :=
  pi_imp (pi_range1 hg hm (pa_cons ha pa_nil hs) hs) fun σ H R q => by
  obtain ⟨ρ, aσ, st, hE, hS, h⟩ := q
  refine tv_bind hE hS h fun ρ1 H1 x v st1 _ s1 _ rx h => ?_
  cases x with
  | int n =>
    cases rx
    dsimp only at h
    split at h
    · rename_i ok
      refine ⟨n, rfl, (rgOk_b ok).1, (rgOk_b ok).2, ?_⟩
      have z := h.ret s1 _ wk_rg
      rwa [Int.sub_zero] at z
    · exact h.elim
  | _ => exact h.elim
theorem ei_rg2 (hg : Gl X "range") (hm : X.mg "range" = none) (ha : EV X T E a fa) (hb : EV X T E b fb) (hs : starEach [a, b] X.env = [(false, eval a X.env), (false, eval b X.env)] := by rfl) (hs2 : starEach [b] X.env = [(false, eval b X.env)] := by rfl) (hs3 : starEach [a, b] X.env = (false, eval a X.env) :: starEach [b] X.env := by rfl) :
    EI X T E tg (.Call (.Name "range" p) [a, b] [] pos) (iRg2 fa fb) :=
  pi_imp (pi_range2 hg hm (pa_cons ha (pa_cons hb pa_nil hs2) hs3) hs hs2) fun σ H R q => by
  obtain ⟨ρ, aσ, st, hE, hS, h⟩ := q
  refine tv_bind hE hS h fun ρ1 H1 x v st1 _ s1 e1 rx h => tv_bind e1 s1 h fun ρ2 H2 y u st2 x2 s2 e2 ry h => ?_
  have rx := rx.ext x2
  cases x with
  | int i =>
    cases y with
    | int j =>
      cases rx
      cases ry
      dsimp only at h
      split at h
      · rename_i ok
        obtain ⟨o1, o2⟩ := Bool.and_eq_true_iff.mp ok
        exact ⟨i, j, rfl, ⟨(rgOk_b o1).1, (rgOk_b o1).2, (rgOk_b o2).1, (rgOk_b o2).2⟩, h.ret s2 _ wk_rg⟩
      · exact h.elim
    | _ => exact h.elim
  | _ => exact h.elim
end
end DN
namespace DN
open PySem PySem.Spec PyProof.Rows L2
open Classical in
noncomputable def srcEn (p : PV) : M Src := fun st => match p with
  | .tup l => .ok (numbered 0 l, fun _ => true) st
  | .lst l => .ok (numbered 0 l, fun _ => true) st
  | .ref n => (match st[n]? with
    | some (.lst l) => .ok (numbered 0 l, fun st => decide (st[n]? = some (.lst l))) st
    | _ => .fail)
  | _ => .fail
noncomputable def iEn (f : DE) : DI := fun σ st => (f σ st).bind fun p st => srcEn p st
theorem numbered_len : ∀ (k : Nat) (l : List PV), (numbered k l).length = l.length
  | _, [] => rfl
  | k, _ :: r => by simp [numbered, numbered_len (k + 1) r]
theorem numbered_get : ∀ (k i : Nat) (l : List PV), (numbered k l)[i]? = l[i]?.map fun p => PV.tup [.int ((k + i : Nat) : Int), p]
  | _, _, [] => by simp [numbered]
  | k, 0, p :: r => by simp [numbered]
  | k, i + 1, p :: r => by
    simp only [numbered, List.getElem?_cons_succ]
    rw [numbered_get (k + 1) i r]
    rw [show k + 1 + i = k + (i + 1) by omega]
section
variable {X : Cx} {T : TR} {E : XK} {G : DG} {ρ : List Addr} {H : Hp} {σ : St} {aσ : AE} {st : Store}
variable {tg a b e : Expr} {fa fb f : DE} {pos p : Pos}
theorem pair_new {T0 : Addr} {i : Nat} {q : PV} {x : V} (s : RlS G ρ H st) (hT : H T0 = none) (r : Rl G ρ H q x) : Ext G.T ρ H ρ (upd H T0 (.tup [.int (i : Nat), x])) ∧ RlS G ρ (upd H T0 (.tup [.int (i : Nat), x])) st ∧ Rl G ρ (upd H T0 (.tup [.int (i : Nat), x])) (.tup [.int (i : Nat), q]) (.ref T0) :=
  ⟨ext_new hT, s.new hT, .tup (.inl ⟨{ cls := .type "tuple", data := .seq #[] 0 }, plT_new _ _, upd_same⟩) (.cons (.int _) (.cons (r.ext (ext_new hT)) .nil))⟩
theorem wk_enT {ρ0 : List Addr} {H0 : Hp} {a : Addr} {l : List PV} {xs : List V} {f : Bool} (q : TV G.K H0 (isW l) f a xs) (ra : RlAll G ρ0 H0 l xs) : Wk G ρ0 H0 (IteT G.K a) (numbered 0 l) fun _ => true := fun T' ρ H st x s _ => by
  have q' : SqT G.K H a xs := TV.sq (q.elim (fun ⟨o, p, z⟩ => .inl ⟨o, p, x.tups _ _ (mkT_tu _ _ _) z⟩) .inr)
  have ra' := RlAll.mv (K := G.K) (mg := G.mg) x ra
  rw [numbered_len]
  refine ⟨fun i hi => ?_, ⟨xs, q', Nat.le_of_eq ra.length.symm⟩, fun i v H' p hp y => ?_⟩
  · obtain ⟨v, hv, _⟩ := ra'.get (List.getElem?_eq_getElem hi)
    exact ⟨xs, v, q', hv⟩
  · obtain ⟨T0, z, rfl, hT, rfl, y⟩ := y
    rw [numbered_get] at hp
    obtain ⟨p', hp', rfl⟩ := Option.map_eq_some_iff.mp hp
    obtain ⟨w, hw, r⟩ := ra'.get hp'
    have e := y xs q'
    rw [hw] at e
    cases e
    rw [Nat.zero_add]
    exact pair_new s hT r
theorem wk_enL {ρ0 : List Addr} {H0 : Hp} {a : Addr} {l : List PV} {xs : List V} (q : LV G.T ρ0 H0 a xs) (ra : RlAll G ρ0 H0 l xs) : Wk G ρ0 H0 (Ite G.K a) (numbered 0 l) fun _ => true := fun T' ρ H st x s _ => by
  have q' : SqL G.K H a xs := .inl (x.keep _ _ q.1 q.2 (fun _ z => by cases z)).1
  have ra' := RlAll.mv (K := G.K) (mg := G.mg) x ra
  rw [numbered_len]
  refine ⟨fun i hi => ?_, ⟨xs, q', Nat.le_of_eq ra.length.symm⟩, fun i v H' p hp y => ?_⟩
  · obtain ⟨v, hv, _⟩ := ra'.get (List.getElem?_eq_getElem hi)
    exact ⟨xs, v, q', hv⟩
  · obtain ⟨T0, z, rfl, hT, rfl, y⟩ := y
    rw [numbered_get] at hp
    obtain ⟨p', hp', rfl⟩ := Option.map_eq_some_iff.mp hp
    obtain ⟨w, hw, r⟩ := ra'.get hp'
    have e := y xs q'
    rw [hw] at e
    cases e
    rw [Nat.zero_add]
    exact pair_new s hT r
open Classical in
theorem wk_enR {ρ0 : List Addr} {H0 : Hp} {n : Nat} {a : Addr} {l : List PV} (h : ρ0[n]? = some a) : Wk G ρ0 H0 (Ite G.K a) (numbered 0 l) fun st => decide (st[n]? = some (.lst l)) := fun T' ρ H st x s ok => by
  have es : st[n]? = some (.lst l) := of_decide_eq_true ok
  have ea : ρ[n]? = some a := by
    cases Rl.mv (K := G.K) (mg := G.mg) x (Rl.ref h) with
    | ref q => exact q
  have ro := s.ref ea es
  obtain ⟨xs, hh, ra'⟩ : ∃ xs, H a = some (.lst xs) ∧ RlAll ⟨G.K, G.mg, T'⟩ ρ H l xs := by
    cases ro with
    | lst hh ra => exact ⟨_, hh, ra⟩
  have q' : SqL G.K H a xs := .inl (.inl hh)
  rw [numbered_len]
  refine ⟨fun i hi => ?_, ⟨xs, q', Nat.le_of_eq ra'.length.symm⟩, fun i v H' p hp y => ?_⟩
  · obtain ⟨v, hv, _⟩ := ra'.get (List.getElem?_eq_getElem hi)
    exact ⟨xs, v, q', hv⟩
  · obtain ⟨T0, z, rfl, hT, rfl, y⟩ := y
    rw [numbered_get] at hp
    obtain ⟨p', hp', rfl⟩ := Option.map_eq_some_iff.mp hp
    obtain ⟨w, hw, r⟩ := ra'.get hp'
    have e := y xs q'
    rw [hw] at e
    cases e
    rw [Nat.zero_add]
    exact pair_new s hT r
def iEnumT (K : PySem.W.Frag) (ta : TA) : TI := fun σ H R => ta σ H fun vs H1 => ∃ a xs, vs = [.ref a] ∧ SqT K H1 a xs ∧ R (IteT K a) H1
theorem pi_enumT {e : Expr} {ta : TA} {p pos tpos : Pos} {elts : List Expr} {kk : Nat} (hg : Gl X "enumerate") (hm : X.mg "enumerate" = none) (ha : PA X [e] ta) (hs : starEach [e] X.env = [(false, eval e X.env)] := by rfl) :
    PI X (.Tuple elts kk tpos) (.Call (.Name "enumerate" p) [e] [] pos) (iEnumT X.K ta) := by
  refine ⟨fun pins s σ H R I h => ?_⟩
  refine Call_ (ld_blt I hg hm boot_enumerate (PyProof.Rows.callWith_type1 (thn (ha.run pos pins s σ H _ I h) fun us s1 ⟨vs, H1, I1, r1, q1⟩ => ?_) hs rfl))
  obtain ⟨a, xs, rfl, hq, q⟩ := q1
  obtain ⟨u, rfl, r⟩ := vals1 r1
  cases r
  obtain ⟨its, rv, pt, hz⟩ := I1.tuple hq
  refine dn_call_enumT (show s1.heap.IsTuple a its.toArray from pt) fun h' he hit hk => wpAny_pyIter_enum he ?_
  refine ⟨s1.heap.objs.size + 1, [s1.heap.objs.size + 1, s1.heap.objs.size], _, _, H1, rfl, I1.kept (t' := s1.toks) hk, turn_enumT a (s1.heap.objs.size + 1) s1.heap.objs.size, ⟨⟨.none, he⟩, hit, Nat.succ_ne_self _⟩, fun b hb => ?_, q⟩
  have hle : s1.heap.objs.size ≤ b := by
    rcases (show b = s1.heap.objs.size + 1 ∨ b = s1.heap.objs.size by simpa using hb) with rfl | rfl
    · exact Nat.le_add_right _ _
    · exact Nat.le_refl _
  exact I1.fpOk hle (I1.hok.fresh hle)
theorem ei_enum {elts : List Expr} {kk : Nat} {tpos : Pos} (hg : Gl X "enumerate") (hm : X.mg "enumerate" = none) (ha : EV X T E a fa) (hs : starEach [a] X.env = [(false, eval a X.env)] := by rfl) : EI X T E (.Tuple elts kk tpos) (.Call (.Name "enumerate" p) [a] [] pos) (iEn fa) :=
  pi_imp (pi_or (pi_enum hg hm (pa_cons ha pa_nil hs) hs) (pi_enumT hg hm (pa_cons ha pa_nil hs) hs)) fun σ H R q => by
  obtain ⟨ρ, aσ, st, hE, hS, h⟩ := q
  have key : ∀ W : VK, (∀ ρ1 H1 x v st1, Ext T ρ H ρ1 H1 → RlS (gOf X T) ρ1 H1 st1 → RlE (gOf X T) ρ1 H1 aσ σ → Rl (gOf X T) ρ1 H1 x v → fa aσ st = .ok x st1 → Pst (gOf X T) E ρ1 H1 (fun r _ ρ' H' => ∀ J, Wk (gOf X T) ρ' H' J r.1 r.2 → R J H') (srcEn x st1) → W v H1) → Tv (gOf X T) E fa σ H W := fun W k => by
    refine ⟨ρ, aσ, st, hE, hS, ?_⟩
    have h := h.bind
    cases q : fa aσ st with
    | ok x st1 =>
      rw [q] at h
      exact fun ρ1 H1 x1 s1 v r => k ρ1 H1 x v st1 x1 s1 (hE.ext x1) r q (h ρ1 H1 x1 s1).2.2
    | exc c w st1 => rw [q] at h; exact h
    | fail => rw [q] at h; exact h
  cases q : fa aσ st with
  | ok x st1 =>
    have sub : ∀ {x' : PV} {st2 : Store}, fa aσ st = .ok x' st2 → x' = x := fun e => by rw [q] at e; cases e; rfl
    cases x with
    | tup l =>
      refine .inr (key _ fun ρ1 H1 x v st1 x1 s1 e1 r qq h => ?_)
      cases sub qq
      cases r with
      | tup q ra => exact ⟨_, _, rfl, q.sq, h.ret s1 _ (wk_enT q ra)⟩
    | lst l =>
      refine .inl (key _ fun ρ1 H1 x v st1 x1 s1 e1 r qq h => ?_)
      cases sub qq
      cases r with
      | lst q ra => exact ⟨_, _, rfl, q.sq, h.ret s1 _ (wk_enL q ra)⟩
    | ref n =>
      refine .inl (key _ fun ρ1 H1 x v st1 x1 s1 e1 r qq h => ?_)
      cases sub qq
      unfold srcEn at h
      cases r with
      | ref q =>
        dsimp only at h
        split at h
        · rename_i l e
          cases s1.ref q e with
          | lst hh ra => exact ⟨_, _, rfl, .inl (.inl hh), h.ret s1 _ (wk_enR q)⟩
        · exact h.elim
    | _ =>
      refine .inl (key _ fun ρ1 H1 x v st1 x1 s1 e1 r qq h => ?_)
      cases sub qq
      exact h.elim
  | exc c w st1 =>
    refine .inl (key _ fun ρ1 H1 x v st1 x1 s1 e1 r qq h => ?_)
    rw [q] at qq
    cases qq
  | fail =>
    unfold iEn at h
    rw [q] at h
    exact h.elim
def testsOk (X : Cx) (T : TR) (E : XK) (ifs : List Expr) (f : DB) : Prop := PTs X ifs (Tb (gOf X T) E f)
def bYes : DB := fun _ st => .ok true st
theorem pts_imp {ifs : List Expr} {t t' : TT} (h : PTs X ifs t) (i : ∀ σ H Q, t' σ H Q → t σ H Q) : PTs X ifs t' := ⟨fun pins s σ H Q I q => h.run pins s σ H Q I (i σ H Q q)⟩
theorem ets_nil : testsOk X T E [] bYes := pts_imp pts_nil fun σ H W q => by
  obtain ⟨ρ, aσ, st, hE, hS, h⟩ := q
  exact h.ret hS
theorem ets_one {c : Expr} {g : DB} (h : EB X T E c g) : testsOk X T E [c] g := pts_one h
end
end DN
namespace DN
open PySem PySem.Spec PyProof.Rows L2
def noX {α : Type} (r : Res α) : Res α := match r with
  | .exc _ _ _ => .fail
  | r => r
def lcI (t : DT) (c : DB) (e : DE) (okS : Store → Bool) (σ : AE) : List PV → M (List PV)
  | [], st => if okS st then .ok [] st else .fail
  | p :: r, st => if okS st then (noX (t p σ st)).bind fun σ' st => (noX (c σ' st)).bind fun k st =>
      if k then (noX (e σ' st)).bind fun v st => (lcI t c e okS σ r st).bind fun vs st => .ok (v :: vs) st else lcI t c e okS σ r st
    else .fail
def dCompL (s : DI) (t : DT) (c : DB) (e : DE) (w : List Nat) (m : List PV → M PV) : DE := fun σ st => (s σ st).bind fun r st => (lcI t c e r.2 (wipeA σ w) r.1 st).bind fun vs st => m vs st
section
variable {X : Cx} {T : TR} {E : XK} {G : DG} {ρ : List Addr} {H : Hp} {σ : St} {aσ : AE} {st : Store}
theorem bind_bind {α β γ : Type} (r : Res α) (f : α → Store → Res β) (g : β → Store → Res γ) : (r.bind f).bind g = r.bind fun a st => (f a st).bind g := by cases r <;> rfl
theorem pst_noX {α β : Type} {K : β → Store → List Addr → Hp → Prop} {r : Res α} {k : α → Store → Res β} (h : Pst G E ρ H K ((noX r).bind k)) : ∃ a st, r = .ok a st ∧ Pst G E ρ H K (k a st) := by
  cases r with
  | ok a st => exact ⟨a, st, rfl, h⟩
  | exc c w st => exact h.elim
  | fail => exact h.elim
theorem wipe_at (i : Nat) : ∀ (w : List Nat) (σ : St), (wipe σ w)[i]? = if i ∈ w then σ[i]?.map fun _ => none else σ[i]?
  | [], σ => by simp [wipe]
  | j :: r, σ => by
    unfold wipe
    by_cases e : j = i
    · subst e
      rw [if_pos List.mem_cons_self]
      by_cases hl : j < σ.length
      · rw [List.getElem?_set_self (by rw [wipe_length]; exact hl), List.getElem?_eq_getElem hl]
        rfl
      · rw [List.getElem?_eq_none (by rw [List.length_set, wipe_length]; omega), List.getElem?_eq_none (by omega)]
        rfl
    · rw [List.getElem?_set_ne e, wipe_at i r σ]
      by_cases h : i ∈ r
      · rw [if_pos h, if_pos (List.mem_cons_of_mem _ h)]
      · rw [if_neg h, if_neg fun z => (List.mem_cons.mp z).elim (fun z => e z.symm) h]
theorem wipe_eq {i : Nat} {v : V} {w : List Nat} {σ : St} (h : i ∈ w) : wipe (σ.set i (some v)) w = wipe σ w := by
  refine List.ext_getElem? fun n => ?_
  rw [wipe_at, wipe_at]
  by_cases e : n ∈ w
  · rw [if_pos e, if_pos e]
    by_cases hn : i = n
    · subst hn
      by_cases hl : i < σ.length
      · rw [List.getElem?_set_self hl, List.getElem?_eq_getElem hl]
        rfl
      · rw [List.getElem?_eq_none (by rw [List.length_set]; omega), List.getElem?_eq_none (by omega)]
    · rw [List.getElem?_set_ne hn]
  · rw [if_neg e, if_neg e, List.getElem?_set_ne fun z => e (by rw [← z]; exact h)]
theorem wipe_wipe {w : List Nat} {σ : St} : wipe (wipe σ w) w = wipe σ w := by
  refine List.ext_getElem? fun n => ?_
  rw [wipe_at]
  split
  · rename_i h
    rw [wipe_at, if_pos h]
    cases σ[n]? <;> rfl
  · rfl
theorem wipeA_len (w : List Nat) : ∀ aσ : AE, (wipeA aσ w).length = aσ.length := by
  induction w with
  | nil => intro _; rfl
  | cons i r ih => intro aσ; unfold wipeA; rw [ih, List.length_set]
theorem wipeA_some {i : Nat} {p : PV} : ∀ (w : List Nat) (aσ : AE), (wipeA aσ w)[i]? = some (some p) → aσ[i]? = some (some p) ∧ i ∉ w
  | [], aσ, h => ⟨h, by simp⟩
  | j :: r, aσ, h => by
    unfold wipeA at h
    obtain ⟨h1, h2⟩ := wipeA_some r _ h
    have ne : i ≠ j := fun e => by
      subst e
      have hl := (List.getElem?_eq_some_iff.mp h1).1
      rw [List.length_set] at hl
      rw [List.getElem?_set_self hl] at h1
      cases h1
    rw [List.getElem?_set_ne (Ne.symm ne)] at h1
    exact ⟨h1, fun hm => (List.mem_cons.mp hm).elim ne h2⟩
theorem RlE.wiped (w : List Nat) (h : RlE G ρ H aσ σ) : RlE G ρ H (wipeA aσ w) (L2.wipe σ w) :=
  ⟨by rw [wipeA_len, wipe_length]; exact h.len, fun i p hp => by
    obtain ⟨h1, h2⟩ := wipeA_some w _ hp
    obtain ⟨v, h3, r⟩ := h.at_ i p h1
    exact ⟨v, by rw [wipe_at, if_neg h2]; exact h3, r⟩⟩
def Tgw (G : DG) (E : XK) (w : List Nat) (f : DT) : TG := fun v σ H Q => ∃ ρ aσ st p, RlE G ρ H aσ σ ∧ RlS G ρ H st ∧ Rl G ρ H p v ∧ Pst G E ρ H (fun aσ' _ ρ' H' => ∀ σ', RlE G ρ' H' aσ' σ' → wipe σ' w = wipe σ w → Q σ' H') (f p aσ st)
def Tgws (G : DG) (E : XK) (w : List Nat) (f : DTs) : TGs := fun vs σ H Q => ∃ ρ aσ st ps, RlE G ρ H aσ σ ∧ RlS G ρ H st ∧ RlAll G ρ H ps vs ∧ Pst G E ρ H (fun aσ' _ ρ' H' => ∀ σ', RlE G ρ' H' aσ' σ' → wipe σ' w = wipe σ w → Q σ' H') (f ps aσ st)
def EGw (X : Cx) (T : TR) (E : XK) (w : List Nat) (tg : Expr) (f : DT) : Prop := PG X tg (Tgw (gOf X T) E w f)
def EGws (X : Cx) (T : TR) (E : XK) (w : List Nat) (tg : List Expr) (f : DTs) : Prop := PGs X tg (Tgws (gOf X T) E w f)
variable {pos : Pos} {w : List Nat}
theorem egw_name (i : Nat) {x : Str} (hN : X.N.Nodup) (hw : i ∈ w := by decide) (hi : X.N[i]? = some x := by rfl) (hx : Loc X.env.scope x := by first | exact Or.inl rfl | exact Or.inr rfl) (hf : X.fn x = true ∨ X.env.scope.names.lookup x = some .local := by first | exact .inl rfl | exact .inr rfl) : EGw X T E w (.Name x pos) (tName i) := pg_imp (pg_name hN hi hx hf) fun v σ H Q q => by
  obtain ⟨ρ, aσ, st, p, hE, hS, r, h⟩ := q
  exact h.ret hS _ (hE.set r) (wipe_eq hw)
theorem egws_nil : EGws X T E w [] tNil := pgs_imp pgs_nil fun vs σ H Q q => by
  obtain ⟨ρ, aσ, st, ps, hE, hS, r, h⟩ := q
  unfold tNil at h
  split at h
  · cases r; exact ⟨rfl, h.ret hS _ hE rfl⟩
  · exact h.elim
theorem egws_cons {tg : Expr} {tgs : List Expr} {t : DT} {ts : DTs} (h1 : EGw X T E w tg t) (h2 : EGws X T E w tgs ts) (hs : (assignEach (tg :: tgs) X.env).map (·.2) = assign tg X.env :: (assignEach tgs X.env).map (·.2) := by rfl) : EGws X T E w (tg :: tgs) (tCons t ts) :=
  pgs_imp (pgs_cons h1 h2 hs) fun vs σ H Q q => by
  obtain ⟨ρ, aσ, st, ps, hE, hS, r, h⟩ := q
  cases r with
  | nil => exact h.elim
  | cons r rs =>
    refine ⟨_, _, rfl, ρ, aσ, st, _, hE, hS, r, h.bind.imp fun a st1 ρ1 H1 _ _ z σ1 e1 w1 => ?_⟩
    exact ⟨ρ1, a, st1, _, e1, z.2.1, rs.ext z.1, z.2.2.imp fun b st2 ρ2 H2 _ _ k σ2 e2 w2 => k σ2 e2 (w2.trans w1)⟩
theorem egw_tup {tgs : List Expr} {ts : DTs} {k : Nat} {n : Nat} (hc : X.calm = true) (h : EGws X T E w tgs ts) (hn : (assignEach tgs X.env).length = n := by rfl) (hst : (assignEach tgs X.env).findIdx? (·.1) = none := by rfl) : EGw X T E w (.Tuple tgs k pos) (tTupP n ts) :=
  pg_imp (pg_tup hc h hn hst) fun v σ H Q q => by
  obtain ⟨ρ, aσ, st, p, hE, hS, r, h⟩ := q
  unfold tTupP at h
  split at h
  · split at h
    · rename_i l hl
      cases r with
      | tup q ra => exact ⟨_, _, rfl, q.sq, by rw [← ra.length]; exact hl, ρ, aσ, st, l, hE, hS, ra, h⟩
    · exact h.elim
  · exact h.elim
end
section
variable {X : Cx} {T : TR} {E : XK} {ρ : List Addr} {H : Hp} {σ : St} {aσ : AE} {st : Store}
variable {elt tg iter : Expr} {ifs : List Expr} {scope : Scope} {own : List (Str × Nat)} {pos : Pos} {src : DI} {t : DT} {c : DB} {e : DE}
abbrev E0' : XK := fun _ _ _ => False
def anyG (X : Cx) (T : TR) (w : List Nat) (t : DT) : TG := fun v σ H Q => ∃ D, Tgw (gOf X (T.add D)) E0' w t v σ H Q
def anyB (X : Cx) (T : TR) (c : DB) : TT := fun σ H Q => ∃ D, Tb (gOf X (T.add D)) E0' c σ H Q
def anyV (X : Cx) (T : TR) (e : DE) : TE := fun σ H Q => ∃ D, Tv (gOf X (T.add D)) E0' e σ H Q
theorem lcI_noexc {t : DT} {c : DB} {e : DE} {okS : Store → Bool} {σ : AE} : ∀ (l : List PV) (st : Store) {x : Str} {w : PV} {s : Store}, lcI t c e okS σ l st ≠ .exc x w s := by
  intro l
  induction l with
  | nil => intro st x w s h; unfold lcI at h; split at h <;> cases h
  | cons p r ih =>
    intro st x w s h
    unfold lcI at h
    split at h
    · cases q1 : t p σ st with
      | ok a st1 =>
        rw [q1] at h
        simp only [noX, Res.bind] at h
        cases q2 : c a st1 with
        | ok k st2 =>
          rw [q2] at h
          simp only [noX] at h
          split at h
          · cases q3 : e a st2 with
            | ok v st3 =>
              rw [q3] at h
              simp only [noX] at h
              split at h
              · cases h
              · rename_i q4; exact ih _ q4
              · cases h
            | exc _ _ _ => rw [q3] at h; cases h
            | fail => rw [q3] at h; cases h
          · exact ih _ h
        | exc _ _ _ => rw [q2] at h; cases h
        | fail => rw [q2] at h; cases h
      | exc _ _ _ => rw [q1] at h; cases h
      | fail => rw [q1] at h; cases h
    · cases h
structure LcEnd (G : DG) (E : XK) (m : List PV → M PV) : Prop where
  nox : ∀ vs st x w s, m vs st ≠ .exc x w s
  fit : ∀ vs st st' p, m vs st = .ok p st' → vs.length ≤ SZ
  fin : ∀ (Q : VK) (ρ1 ρ : List Addr) (H1 H : Hp) (D : Addr) (vs : List PV) (acc : List V) (st : Store), Mv G.T ρ1 H1 (G.T.add D) ρ H → H1 D = none → (∀ a, NT H a → NT H1 a) → (∀ a ∈ ρ, a ∈ ρ1 ∨ NT H1 a) → (∀ a ∈ G.T.res, ¬ NT H1 a → H a = H1 a) → D ∉ G.T.res →
    RlS ⟨G.K, G.mg, G.T.add D⟩ ρ H st → H D = some (.lst acc) → RlAll ⟨G.K, G.mg, G.T.add D⟩ ρ H vs acc → Pst G E ρ1 H1 (KV G Q) (m vs st) → Q (.ref D) H
theorem mLst_end {G : DG} : LcEnd G E mLst := ⟨fun vs st x w s h => (by unfold mLst at h; split at h <;> cases h), (fun vs st st' p h => by
    unfold mLst at h
    split at h
    · assumption
    · cases h), fun Q ρ1 ρ H1 H D vs acc st mv hD fr nw rs hDr s hH ra h => by
  unfold mLst at h
  split at h
  · exact h ρ H ⟨mv.pre, fun a u r o t => (mv.keep a u r o t).1, nw, fr, mv.tups, rs⟩ (rls_out s) _ (.lst ⟨.inl hH, (s.res D List.mem_cons_self).2, hDr⟩ (ra.mv mv_out))
  · exact h.elim⟩
theorem mLstR_end {G : DG} : LcEnd G E mLstR := ⟨fun vs st x w s h => (by unfold mLstR at h; split at h <;> cases h), (fun vs st st' p h => by
    unfold mLstR at h
    split at h
    · assumption
    · cases h), fun Q ρ1 ρ H1 H D vs acc st mv hD fr nw rs hDr s hH ra h => by
  unfold mLstR at h
  split at h
  · exact h (ρ ++ [D]) H ⟨mv.pre.trans (List.prefix_append _ _), fun a u r o t => (mv.keep a u r o t).1, fun a ha => by
      rcases List.mem_append.mp ha with ha | ha
      · exact nw a ha
      · rw [List.mem_singleton.mp ha]; exact .inr (.inl hD), fr, mv.tups, rs⟩ (rls_outR s hH ra hDr) _ (.ref (by rw [← s.len]; simp))
  · exact h.elim⟩
def LcW (G : DG) (ρ1 : List Addr) (H1 : Hp) (D : Addr) (K : List PV → Store → Prop) (H : Hp) : Prop :=
  ∃ ρ st vs acc, Mv G.T ρ1 H1 (G.T.add D) ρ H ∧ (∀ a, NT H a → NT H1 a) ∧ (∀ a ∈ ρ, a ∈ ρ1 ∨ NT H1 a) ∧ (∀ a ∈ G.T.res, ¬ NT H1 a → H a = H1 a) ∧ RlS ⟨G.K, G.mg, G.T.add D⟩ ρ H st ∧ H D = some (.lst acc) ∧ RlAll ⟨G.K, G.mg, G.T.add D⟩ ρ H vs acc ∧ K vs st
theorem LcW.start {K : List PV → Store → Prop} {G : DG} {ρ : List Addr} {H : Hp} {D : Addr} (s : RlS G ρ H st) (hD : H D = none) (k : K [] st) : LcW G ρ H D K (upd H D (.lst [])) :=
  ⟨ρ, st, [], [], mv_in hD, fun a z => by
    by_cases e : a = D
    · rw [e]; exact .inl hD
    · exact nt_ne e z, fun a z => .inl z, fun a _ hn => upd_ne fun e => hn (by rw [e]; exact .inl hD), rls_in s hD, upd_same, .nil, k⟩
theorem LcW.still {K : List PV → Store → Prop} {G : DG} {ρ1 ρ ρ' : List Addr} {H1 H H' : Hp} {D : Addr} {vs : List PV} {acc : List V} {st' : Store} (hD : H1 D = none) (mv : Mv G.T ρ1 H1 (G.T.add D) ρ H) (fr : ∀ a, NT H a → NT H1 a) (nw : ∀ a ∈ ρ, a ∈ ρ1 ∨ NT H1 a) (rs : ∀ a ∈ G.T.res, ¬ NT H1 a → H a = H1 a) (hH : H D = some (.lst acc)) (ra : RlAll ⟨G.K, G.mg, G.T.add D⟩ ρ H vs acc)
    (x : Ext (G.T.add D) ρ H ρ' H') (s : RlS ⟨G.K, G.mg, G.T.add D⟩ ρ' H' st') (k : K vs st') : LcW G ρ1 H1 D K H' :=
  ⟨ρ', st', vs, acc, mv.trans x.mv, fun a z => fr a (x.free a z), fun a ha => (x.new a ha).elim (nw a) fun z => .inr (fr a z), fun a ha hn => by
    have e := rs a ha hn
    rw [← e]
    exact x.rs a (List.mem_cons_of_mem _ ha) (by unfold NT at hn ⊢; rw [e]; exact hn), s, by rw [x.rs D List.mem_cons_self (nt_some hH)]; exact hH, RlAll.ext (G := ⟨G.K, G.mg, G.T.add D⟩) x ra, k⟩
theorem lc_still {G : DG} {ρ1 ρ ρ' : List Addr} {H1 H H' : Hp} {D : Addr} {vs : List PV} {acc : List V} (mv : Mv G.T ρ1 H1 (G.T.add D) ρ H) (fr : ∀ a, NT H a → NT H1 a) (nw : ∀ a ∈ ρ, a ∈ ρ1 ∨ NT H1 a) (rs : ∀ a ∈ G.T.res, ¬ NT H1 a → H a = H1 a) (hH : H D = some (.lst acc)) (ra : RlAll ⟨G.K, G.mg, G.T.add D⟩ ρ H vs acc)
    (x : Ext (G.T.add D) ρ H ρ' H') : Mv G.T ρ1 H1 (G.T.add D) ρ' H' ∧ (∀ a, NT H' a → NT H1 a) ∧ (∀ a ∈ ρ', a ∈ ρ1 ∨ NT H1 a) ∧ (∀ a ∈ G.T.res, ¬ NT H1 a → H' a = H1 a) ∧ H' D = some (.lst acc) ∧ RlAll ⟨G.K, G.mg, G.T.add D⟩ ρ' H' vs acc :=
  ⟨mv.trans x.mv, fun a z => fr a (x.free a z), fun a ha => (x.new a ha).elim (nw a) fun z => .inr (fr a z), fun a ha hn => by
    have e := rs a ha hn
    rw [← e]
    exact x.rs a (List.mem_cons_of_mem _ ha) (by unfold NT at hn ⊢; rw [e]; exact hn), by rw [x.rs D List.mem_cons_self (nt_some hH)]; exact hH, RlAll.ext (G := ⟨G.K, G.mg, G.T.add D⟩) x ra⟩
theorem LcW.grow {K : List PV → Store → Prop} {G : DG} {ρ1 ρ : List Addr} {H1 H : Hp} {D : Addr} {vs : List PV} {acc : List V} {p : PV} {v : V} (hDr : D ∉ G.T.res) (mv : Mv G.T ρ1 H1 (G.T.add D) ρ H) (fr : ∀ a, NT H a → NT H1 a) (nw : ∀ a ∈ ρ, a ∈ ρ1 ∨ NT H1 a) (rs : ∀ a ∈ G.T.res, ¬ NT H1 a → H a = H1 a)
    (s : RlS ⟨G.K, G.mg, G.T.add D⟩ ρ H st) (hH : H D = some (.lst acc)) (ra : RlAll ⟨G.K, G.mg, G.T.add D⟩ ρ H vs acc) (r : Rl ⟨G.K, G.mg, G.T.add D⟩ ρ H p v) (k : K (vs ++ [p]) st) : LcW G ρ1 H1 D K (upd H D (.lst (acc ++ [v]))) := by
  have g : Mv (G.T.add D) ρ H (G.T.add D) ρ (upd H D (.lst (acc ++ [v]))) := mv_grow hH trivial List.mem_cons_self
  refine ⟨ρ, st, vs ++ [p], acc ++ [v], mv.trans g, fun a z => fr a ?_, nw, fun a ha hn => ?_, rls_grow s hH trivial List.mem_cons_self, upd_same, (ra.append (.cons r .nil)).mv g, k⟩
  · by_cases e : a = D
    · subst e; exact (nt_at (fun ps z => by cases z) z).elim
    · exact nt_ne e z
  · rw [upd_ne fun e => hDr (by rw [← e]; exact ha)]; exact rs a ha hn
theorem lc_read {m : List PV → M PV} {Q : VK} (hm : LcEnd (gOf X T) E m) (q : Tv (gOf X T) E (dCompL src t c e (own.map (·.2)) m) σ H Q) :
    tLc (Ti (gOf X T) E src) (anyG X T (own.map (·.2)) t) (anyB X T c) (anyV X T e) (own.map (·.2)) σ H Q := by
  obtain ⟨ρ, aσ, st, hE, hS, h⟩ := q
  refine ti_bind hE hS h fun ρ1 H1 r st1 J x1 s1 e1 wk h => ?_
  obtain ⟨l, ok⟩ := r
  intro D hD
  have hDr : D ∉ T.res := fun z => (s1.res D z).1 (.inl hD)
  have hw : ∀ i st vs, Pst (gOf X T) E ρ1 H1 (KV (gOf X T) Q) ((lcI t c e ok (wipeA aσ (own.map (·.2))) (l.drop i) st).bind fun vs' st => m (vs ++ vs') st) → vs.length ≤ SZ := fun i st vs h => by
    cases q : lcI t c e ok (wipeA aσ (own.map (·.2))) (l.drop i) st with
    | ok vs' st' =>
      rw [q] at h
      cases q2 : m (vs ++ vs') st' with
      | ok p st2 => have := hm.fit _ _ _ _ q2; rw [List.length_append] at this; omega
      | exc _ _ _ => exact absurd q2 (hm.nox _ _ _ _ _)
      | fail => rw [show (Res.ok vs' st').bind _ = m (vs ++ vs') st' from rfl, q2] at h; exact h.elim
    | exc _ _ _ => exact absurd q (lcI_noexc _ _)
    | fail => rw [q] at h; exact h.elim
  refine ⟨fun i mm H => mm = l.length - i ∧ i ≤ l.length ∧ LcW (gOf X T) ρ1 H1 D (fun vs st => Pst (gOf X T) E ρ1 H1 (KV (gOf X T) Q) ((lcI t c e ok (wipeA aσ (own.map (·.2))) (l.drop i) st).bind fun vs' st => m (vs ++ vs') st)) H, ⟨l.length, by simp, Nat.zero_le _, .start s1 hD h⟩, ?_⟩
  rintro i mm H ⟨rfl, hil, ρ, st, vs, acc, mv, fr, nw, rs, s, hH, ra, h⟩
  by_cases hlt : i < l.length
  · rw [drop_some hlt] at h
    unfold lcI at h
    split at h
    · rename_i hok
      obtain ⟨h1, h2, h3⟩ := wk (T.add D) ρ H st mv s hok
      refine .inr ⟨h1 i hlt, LcW (gOf X T) ρ1 H1 D (fun vs st => Pst (gOf X T) E ρ1 H1 (KV (gOf X T) Q) ((lcI t c e ok (wipeA aσ (own.map (·.2))) (l.drop (i + 1)) st).bind fun vs' st => m (vs ++ vs') st)), fun H' z => ⟨l.length - (i + 1), by omega, rfl, hlt, z⟩, fun v H' y => ?_⟩
      obtain ⟨xx, ss, rr⟩ := h3 i v H' l[i] (List.getElem?_eq_getElem hlt) y
      rw [bind_bind] at h
      obtain ⟨aσ2, st2, et, h⟩ := pst_noX h
      rw [bind_bind] at h
      obtain ⟨k, st3, ec, h⟩ := pst_noX h
      have eE := (RlE.ext (G := gOf X (T.add D)) xx (RlE.mv (K := X.K) (mg := X.mg) mv e1)).wiped (own.map (·.2))
      refine ⟨D, ρ, _, st, l[i], eE, ss, rr, ?_⟩
      rw [et]
      intro ρ2 H2 x2 s2 σ' e2 w2
      refine ⟨w2.trans wipe_wipe, D, ρ2, aσ2, st2, e2, s2, ?_⟩
      rw [ec]
      intro ρ3 H3 x3 s3
      have e3 := RlE.ext (G := gOf X (T.add D)) x3 e2
      have x03 := (xx.trans x2).trans x3
      cases k with
      | false => exact ite_ff (LcW.still hD mv fr nw rs hH ra x03 s3 h)
      | true =>
        refine ite_tt ?_
        rw [if_pos rfl, bind_bind] at h
        obtain ⟨p, st4, ee, h⟩ := pst_noX h
        refine ⟨D, ρ3, aσ2, st3, e3, s3, ?_⟩
        rw [ee]
        intro ρ4 H4 x4 s4 v' rv
        have h' : Pst (gOf X T) E ρ1 H1 (KV (gOf X T) Q) ((lcI t c e ok (wipeA aσ (own.map (·.2))) (l.drop (i + 1)) st4).bind fun vs' st => m ((vs ++ [p]) ++ vs') st) := by
          rw [bind_bind] at h
          simpa [Res.bind, List.append_assoc] using h
        obtain ⟨mv5, fr5, nw5, rs5, hH5, ra5⟩ := lc_still mv fr nw rs hH ra (x03.trans x4)
        have hz := hw (i + 1) st4 (vs ++ [p]) h'
        refine ⟨acc, hH5, ?_, LcW.grow hDr mv5 fr5 nw5 rs5 s4 hH5 ra5 rv h'⟩
        rw [List.length_append, ra.length, List.length_singleton] at hz
        rw [SZ_eq]
        omega
    · exact h.elim
  · have ei : i = l.length := by omega
    subst ei
    rw [List.drop_length] at h
    unfold lcI at h
    split at h
    · rename_i hok
      obtain ⟨h1, h2, h3⟩ := wk (T.add D) ρ H st mv s hok
      refine .inl ⟨h2, hm.fin Q ρ1 ρ H1 H D vs acc st mv hD fr nw rs hDr s hH ra ?_⟩
      simpa [Res.bind] using h
    · exact h.elim
theorem any_g {X' : Cx} {tg : Expr} {w : List Nat} (h : ∀ D, PG X' tg (Tgw (gOf X (T.add D)) E0' w t)) : PG X' tg (anyG X T w t) := ⟨fun pins s σ H v u Q I r ⟨D, q⟩ => (h D).run pins s σ H v u Q I r q⟩
theorem any_t {X' : Cx} (h : ∀ D, PTs X' ifs (Tb (gOf X (T.add D)) E0' c)) : PTs X' ifs (anyB X T c) := ⟨fun pins s σ H Q I ⟨D, q⟩ => (h D).run pins s σ H Q I q⟩
theorem any_v {X' : Cx} {e' : Expr} (h : ∀ D, PE X' e' (Tv (gOf X (T.add D)) E0' e)) : PE X' e' (anyV X T e) := ⟨fun pins s σ H Q I ⟨D, q⟩ => (h D).run pins s σ H Q I q⟩
theorem ev_lc {m : List PV → M PV} (hm : LcEnd (gOf X T) E m) (hc : X.calm = true) (hN : X.N.Nodup) (hi : EI X T E tg iter src) (ok : BlkOk X.N X.env.scope scope own)
    (hg : ∀ (D : Addr) (s : Shared) (H : Hp) (C : Addr) (cl : List (Str × Addr)) (fp : List Addr), EGw (X.blk s H scope (compEnvC scope cl C X.env) fp) (T.add D) E0' (own.map (·.2)) tg t)
    (ht : ∀ (D : Addr) (s : Shared) (H : Hp) (C : Addr) (cl : List (Str × Addr)) (fp : List Addr), testsOk (X.blk s H scope (compEnvC scope cl C X.env) fp) (T.add D) E0' ifs c)
    (he : ∀ (D : Addr) (s : Shared) (H : Hp) (C : Addr) (cl : List (Str × Addr)) (fp : List Addr), EV (X.blk s H scope (compEnvC scope cl C X.env) fp) (T.add D) E0' elt e) (hs : ∀ x, foldedSetIterable iter X.env x = pure x := by intro _; rfl) :
    EV X T E (.ListComp elt [⟨tg, iter, ifs, 0⟩] scope pos) (dCompL src t c e (own.map (·.2)) m) :=
  pe_imp (pe_lc hc hN hi ok (fun s H C cl fp => any_g fun D => hg D s H C cl fp) (fun s H C cl fp => any_t fun D => ht D s H C cl fp) (fun s H C cl fp => any_v fun D => he D s H C cl fp) hs) fun σ H Q q => lc_read hm q
theorem es_setLc {m : List PV → M PV} {i : Nat} {y : Str} {py spos : Pos} (hm : LcEnd (gOf X T) E m) (hc : X.calm = true) (hN : X.N.Nodup) (hy : X.N[i]? = some y) (hyl : X.env.scope.names.lookup y = some .local)
    (hsw : swapsWith (.ListComp elt [⟨tg, iter, ifs, 0⟩] scope pos) (some (.Name y py)) spos.line X.env = pure true) (hi : EI X T E tg iter src) (ok : BlkOk X.N X.env.scope scope own)
    (hg : ∀ (D : Addr) (s : Shared) (H : Hp) (C : Addr) (cl : List (Str × Addr)) (fp : List Addr), EGw (X.blk s H scope (compEnvC scope cl C X.env) fp) (T.add D) E0' (own.map (·.2)) tg t)
    (ht : ∀ (D : Addr) (s : Shared) (H : Hp) (C : Addr) (cl : List (Str × Addr)) (fp : List Addr), testsOk (X.blk s H scope (compEnvC scope cl C X.env) fp) (T.add D) E0' ifs c)
    (he : ∀ (D : Addr) (s : Shared) (H : Hp) (C : Addr) (cl : List (Str × Addr)) (fp : List Addr), EV (X.blk s H scope (compEnvC scope cl C X.env) fp) (T.add D) E0' elt e) (hs : ∀ x, foldedSetIterable iter X.env x = pure x := by intro _; rfl) :
    ES X T E (.Assign [.Name y py] (.ListComp elt [⟨tg, iter, ifs, 0⟩] scope pos) spos) (sAsg (dCompL src t c e (own.map (·.2)) m) (tName i)) :=
  ps_imp (ps_setLc hc hN hy hyl hsw hi ok (fun s H C cl fp => any_g fun D => hg D s H C cl fp) (fun s H C cl fp => any_t fun D => ht D s H C cl fp) (fun s H C cl fp => any_v fun D => he D s H C cl fp) hs) fun D σ H q => by
  obtain ⟨ρ, aσ, st, hE, hS, h⟩ := q
  refine lc_read (Q := fun x H1 => D.nx (σ.set i (some x)) H1) hm ⟨ρ, aσ, st, hE, hS, h.bind.imp fun p st1 ρ1 H1 _ _ z v r => ?_⟩
  exact z.2.2.ret z.2.1 _ ((hE.ext z.1).set r)
end
end DN
namespace DN
open PySem PySem.Spec PyProof.Rows L2
structure RoomG (k : Nat) (A : Around) : Prop where
  room : Room k A
  gd : A.guards = some []
theorem RoomG.mono {j k : Nat} {A : Around} (r : RoomG k A) (h : j ≤ k) : RoomG j A := ⟨r.room.mono h, r.gd⟩
theorem RoomG.deeper {k : Nat} {A : Around} (r : RoomG (k + 1) A) (env : Env) : RoomG k (A.deeper env) := ⟨r.room.deeper env, r.gd⟩
structure FnOkG (P : Program) (w : World) (K : PySem.W.Frag) (mg : Str → Option Value) (base : Heap) (k : Nat) (f : Addr) (fd : FuncData) (ps : List Str) (sp : Sp) : Prop where
  len : ∀ vs H Q E, sp vs H Q E → vs.length = ps.length
  run : ∀ (A : Around) (outer : List Env) (s : Shared) (H : Hp) (args : Args) (us : List Value) (vs : List V) (Q : VK) (E : XK), RoomG k A → Env0 P w K mg base A outer s H → BindsTo s fd args (ps.zip us) → Vals vs us → sp vs H Q E →
    codeAny (model P w) A (.call (.ref f) args) (CR (L2N.CX P w) outer P w H s Q E) s
section
variable {P : Program} {w : World} {K : PySem.W.Frag} {mg : Str → Option Value} {base : Heap} {k j : Nat} {f : Addr} {fd : FuncData} {N ps : List Str} {sp sp' : Sp}
theorem FnOkG.mono (F : FnOkG P w K mg base j f fd ps sp) (h : j ≤ k) : FnOkG P w K mg base k f fd ps sp :=
  ⟨F.len, fun A outer s H args us vs Q E r => F.run A outer s H args us vs Q E (r.mono h)⟩
theorem FnOkG.imp (F : FnOkG P w K mg base k f fd ps sp) (h : ∀ vs H Q E, sp' vs H Q E → sp vs H Q E) : FnOkG P w K mg base k f fd ps sp' :=
  ⟨fun vs H Q E q => F.len vs H Q E (h _ _ _ _ q), fun A outer s H args us vs Q E r e b v q => F.run A outer s H args us vs Q E r e b v (h _ _ _ _ q)⟩
theorem FnOkG.of {name qual : Str} {params : Arguments} {body : List Stmt} {scope : Scope} {dV kV doc pm cdv ct oc : Value} {an od : Option Addr} {osl : Array (Option Value)}
    (lk : K.lookup f = some ⟨oc, od, .func (PySem.W.fnOf name qual params body scope dV kV doc pm an cdv ct), osl⟩) (hcd : PySem.W.codeIn K cdv qual = true) (S : FnScope N ps scope) (len : ∀ vs H Q E, sp vs H Q E → vs.length = ps.length)
    (hb : ∀ (A : Around) (outer : List Env) (s : Shared) (H : Hp) (vs : List V) (Q : VK) (E : XK), RoomG k (A.deeper (envOfC qual scope s.heap.objs.size f cdv)) → sp vs H Q E →
      ∃ t, PSs (cxOf (L2N.CX P w) P w K mg base N qual scope f cdv A outer s H E) body t ∧ t { nx := fun _ H' => Q .non H', rt := Q } (L2.start N vs) H) :
    FnOkG P w K mg base (k + 1) f (PySem.W.fnOf name qual params body scope dV kV doc pm an cdv ct) ps sp :=
  ⟨len, fun A outer s H args us vs Q E r e b v q => LamX.run_ofS lk hcd S r.room e b v (len _ _ _ _ q) fun r' => hb A outer s H vs Q E ⟨r', r.gd⟩ q⟩
theorem FnOkG.ofD {x qual : Str} {params : Arguments} {body : List Stmt} {scope : Scope} {dvs : List V} {kws : List (Str × V)} (F : FunD K x qual params body scope dvs kws f fd) (S : FnScope N ps scope) (len : ∀ vs H Q E, sp vs H Q E → vs.length = ps.length)
    (hb : ∀ (cdv : Value) (A : Around) (outer : List Env) (s : Shared) (H : Hp) (vs : List V) (Q : VK) (E : XK), RoomG k (A.deeper (envOfC qual scope s.heap.objs.size f cdv)) → sp vs H Q E →
      ∃ t, PSs (cxOf (L2N.CX P w) P w K mg base N qual scope f cdv A outer s H E) body t ∧ t { nx := fun _ H' => Q .non H', rt := Q } (L2.start N vs) H) : FnOkG P w K mg base (k + 1) f fd ps sp := by
  obtain ⟨_, _, dV, kV, doc, pm, an, cdv, ct, _, rfl, lk, hcd, _, _⟩ := F.ex
  exact FnOkG.of lk hcd S len (hb cdv)
end
section
variable {X : Cx} {k : Nat} {f : Addr} {fd : FuncData} {ps : List Str} {sp : Sp} {E : XK} {x : Str} {p pos : Pos} {e : Expr} {es : List Expr} {t : TA}
theorem call_back {pins : List (Addr × Obj)} {σ : L2.St} {H : Hp} {s : Shared} {Q : VK} {v : Value} {us : List Value} (hx : Passes (L2N.CX X.prog X.w) X E) (I : Inv X pins σ H s)
    (h : codeAny (model X.prog X.w) X.A (.call v ⟨us, []⟩) (CR (L2N.CX X.prog X.w) X.stack X.prog X.w H s Q E) s) : wpAny (model X.prog X.w) X.A (call v us) (EP X pins σ Q) X.xe s := by
  apply wpAny_call
  apply codeAny_mono h
  intro r s' z
  match r, z with
  | .error e, z => exact hx pins σ H s e s' I z
  | .ok (.ret u), z => exact I.after z
  | .ok .next, z => exact z.elim
  | .ok .brk, z => exact z.elim
  | .ok .cont, z => exact z.elim
theorem run_callG {pins : List (Addr × Obj)} {σ : L2.St} {H : Hp} {s : Shared} {Q : VK} {us : List Value} {vs : List V} (F : FnOkG X.prog X.w X.K X.mg X.base k f fd ps sp) (hr : RoomG k X.A) (hb : Binds X.K fd ps []) (hx : Passes (L2N.CX X.prog X.w) X E)
    (I : Inv X pins σ H s) (r : Vals vs us) (q : sp vs H Q E) : wpAny (model X.prog X.w) X.A (call (.ref f) us) (EP X pins σ Q) X.xe s := by
  apply call_back hx I
  have n : us.length = ps.length := by rw [← r.length]; exact F.len _ _ _ _ q
  have b := hb s us I.kIn (by simpa using n)
  rw [List.append_nil] at b
  exact F.run X.A X.stack s H _ us vs Q E hr I.env0 b r q
abbrev tCallG (sp : Sp) (E : XK) (t : TA) : TE := fun σ H Q => t σ H fun vs H1 => sp vs H1 Q E
theorem pe_callG (F : FnOkG X.prog X.w X.K X.mg X.base k f fd ps sp) (hr : RoomG k X.A) (hg : Gl X x) (hm : X.mg x = some (.ref f)) (hk : PySem.W.keepIn X.K (.ref f) = true) (hb : Binds X.K fd ps []) (hx : Passes (L2N.CX X.prog X.w) X E)
    (ha : PA X (e :: es) t) (hdb : (x == ("__debug__" : Str)) = false := by decide) (he : starEach (e :: es) X.env = (false, eval e X.env) :: starEach es X.env := by rfl) (hpl : (backTo pos (starEach es X.env)).any (·.1) = false := by rfl) :
    PE X (.Call (.Name x p) (e :: es) [] pos) (tCallG sp E t) := by
  constructor
  intro pins s σ H Q I q
  apply wpAny_Call_Name_kw
  apply ld_glob I hg hm ?_ hdb
  apply PySem.W.callWith_K (h₀ := X.base) I.ok.mod.kin hk ?_ he hpl
  exact thn (ha.run pos pins s σ H _ I q) fun us s1 ⟨vs, H1, I1, r, z⟩ => ⟨I1.kIn, run_callG F hr hb hx I1 r z⟩
end
end DN
namespace DN
open PySem PySem.Spec PyProof.Rows L2
mutual
def mapV (g : Nat → Option PV) : PV → Option PV
  | .tup l => (mapVs g l).map .tup
  | .lst l => (mapVs g l).map .lst
  | .dK ks vs => (mapVs g vs).map (.dK ks)
  | .dT ks vs => (mapVs g vs).map (.dT ks)
  | .ref n => g n
  | .non => some .non
  | .bl b => some (.bl b)
  | .ftp l => (mapVs g l).map .ftp
  | .int i => some (.int i)
  | .str x => some (.str x)
  | .con x => some (.con x)
  | .ty n => some (.ty n)
  | .scr l => (mapVs g l).map .scr
  | .err c w => (mapV g w).map (.err c)
  | .fnv l => (mapVs g l).map .fnv
def mapVs (g : Nat → Option PV) : List PV → Option (List PV)
  | [] => some []
  | p :: ps => (mapV g p).bind fun q => (mapVs g ps).map fun qs => q :: qs
end
def clipR (k : Nat) (st : Store) : Nat → Nat → Option PV
  | 0, n => if n < k then some (.ref n) else none
  | f + 1, n => if n < k then some (.ref n) else match st[n]? with
    | some (.lst l) => (mapVs (clipR k st f) l).map .lst
    | some (.dK es) => (mapVs (clipR k st f) (es.map (·.2))).map (.dK (es.map (·.1)))
    | some (.dT es) => (mapVs (clipR k st f) (es.map (·.2))).map (.dT (es.map (·.1)))
    | _ => none
def clip (k : Nat) (st : Store) (p : PV) : Option PV := mapV (clipR k st 6) p
def clipO (k : Nat) (st : Store) : SO → Option SO
  | .lst l => (mapVs (clipR k st 6) l).map .lst
  | .dK es => (mapVs (clipR k st 6) (es.map (·.2))).map fun vs => .dK ((es.map (·.1)).zip vs)
  | .dT es => (mapVs (clipR k st 6) (es.map (·.2))).map fun vs => .dT ((es.map (·.1)).zip vs)
  | .ins C fs => (mapVs (clipR k st 6) (fs.map (·.2))).map fun vs => .ins C ((fs.map (·.1)).zip vs)
open Classical in
noncomputable def gcO (k : Nat) (st : Store) (o o' : SO) : Option SO := if o = o' then some o else clipO k st o'
noncomputable def gcS (k : Nat) (st : Store) : List SO → List SO → Option (List SO)
  | [], _ => some []
  | o :: r, o' :: r' => (gcO k st o o').bind fun x => (gcS k st r r').map (x :: ·)
  | _, [] => none
noncomputable def gcR (st : Store) (r : Res PV) : Res PV := match r with
  | .ok v st' => (match clip st.length st' v, gcS st.length st' st st' with
    | some v, some s => .ok v s
    | _, _ => .fail)
  | .exc c v st' => (match clip st.length st' v, gcS st.length st' st st' with
    | some v, some s => .exc c v s
    | _, _ => .fail)
  | .fail => .fail
section
variable {G : DG} {E : XK} {ρ ρ' : List Addr} {H H' : Hp} {st st' : Store}
theorem mapVs_len {g : Nat → Option PV} : ∀ {l l' : List PV}, mapVs g l = some l' → l'.length = l.length
  | [], l', h => by simp only [mapVs, Option.some.injEq] at h; subst h; rfl
  | p :: ps, l', h => by
    simp only [mapVs] at h
    obtain ⟨q, e1, h⟩ := Option.bind_eq_some_iff.mp h
    obtain ⟨qs, e2, rfl⟩ := Option.map_eq_some_iff.mp h
    simp [mapVs_len e2]
theorem out_pre {T : TR} (pre : ρ <+: ρ') {a : Addr} (o : Out T ρ' a) : Out T ρ a := ⟨fun h => o.1 (pre.subset h), o.2⟩
theorem isW_map {g : Nat → Option PV} {l l' : List PV} (w : isW l = true) (h : mapVs g l = some l') : isW l' = true := by
  unfold isW at w
  split at w
  · simp only [mapVs, mapV, Option.bind_some, Option.map_some, Option.some.injEq] at h
    subst h
    exact w
  · simp only [mapVs, mapV, Option.bind_some, Option.map_some, Option.some.injEq] at h
    subst h
    exact w
  · rename_i x y z r
    simp only [mapVs, mapV, Option.bind_some, Option.map_some] at h
    cases e : mapVs g r with
    | none => rw [e] at h; cases h
    | some r' =>
      rw [e] at h
      simp only [Option.map_some, Option.some.injEq] at h
      subst h
      cases r' <;> rfl
  · cases w
def NoTup (g : Nat → Option PV) : Prop := ∀ n p, g n = some p → match p with
  | .ref _ => True
  | .lst _ => True
  | .dK _ _ => True
  | .dT _ _ => True
  | _ => False
theorem mapV_str {g : Nat → Option PV} (hn : NoTup g) {p : PV} {x : Str} (h : mapV g p = some (.str x)) : p = .str x := by
  cases p with
  | ref n => exact False.elim (hn n _ (by simpa only [mapV] using h))
  | str y => simpa [mapV] using h
  | tup l => simp [mapV] at h
  | lst l => simp [mapV] at h
  | ftp l => simp [mapV] at h
  | scr l => simp [mapV] at h
  | err _ _ => simp [mapV] at h
  | fnv _ => simp [mapV] at h
  | dK _ l => simp [mapV] at h
  | dT _ l => simp [mapV] at h
  | _ => simp [mapV] at h
theorem mapV_int {g : Nat → Option PV} (hn : NoTup g) {p : PV} {x : Int} (h : mapV g p = some (.int x)) : p = .int x := by
  cases p with
  | ref n => exact False.elim (hn n _ (by simpa only [mapV] using h))
  | int y => simpa [mapV] using h
  | tup l => simp [mapV] at h
  | lst l => simp [mapV] at h
  | ftp l => simp [mapV] at h
  | scr l => simp [mapV] at h
  | err _ _ => simp [mapV] at h
  | fnv _ => simp [mapV] at h
  | dK _ l => simp [mapV] at h
  | dT _ l => simp [mapV] at h
  | _ => simp [mapV] at h
theorem mapVs_cons {g : Nat → Option PV} {l : List PV} {q : PV} {qs : List PV} (h : mapVs g l = some (q :: qs)) : ∃ p ps, l = p :: ps ∧ mapV g p = some q ∧ mapVs g ps = some qs := by
  cases l with
  | nil => simp [mapVs] at h
  | cons p ps =>
    simp only [mapVs] at h
    obtain ⟨q', e1, h⟩ := Option.bind_eq_some_iff.mp h
    obtain ⟨qs', e2, h⟩ := Option.map_eq_some_iff.mp h
    cases h
    exact ⟨p, ps, rfl, e1, e2⟩
theorem mapVs_nil {g : Nat → Option PV} {l : List PV} (h : mapVs g l = some []) : l = [] := by
  cases l with
  | nil => rfl
  | cons p ps =>
    simp only [mapVs] at h
    obtain ⟨q', e1, h⟩ := Option.bind_eq_some_iff.mp h
    obtain ⟨qs', e2, h⟩ := Option.map_eq_some_iff.mp h
    cases h
theorem mapV_apart {g : Nat → Option PV} (hn : NoTup g) {p : PV} {x : Str} (h : mapV g p = some (.tup [.str x, .int 0])) : p = .tup [.str x, .int 0] := by
  cases p with
  | tup l =>
    simp only [mapV] at h
    obtain ⟨l', e, e2⟩ := Option.map_eq_some_iff.mp h
    cases e2
    obtain ⟨p1, r, rfl, h1, e⟩ := mapVs_cons e
    obtain ⟨p2, r, rfl, h2, e⟩ := mapVs_cons e
    cases mapVs_nil e
    rw [mapV_str hn h1, mapV_int hn h2]
  | ref n => exact False.elim (hn n _ (by simpa only [mapV] using h))
  | lst l => simp [mapV] at h
  | ftp l => simp [mapV] at h
  | scr l => simp [mapV] at h
  | err _ _ => simp [mapV] at h
  | fnv _ => simp [mapV] at h
  | dK _ l => simp [mapV] at h
  | dT _ l => simp [mapV] at h
  | _ => simp [mapV] at h
theorem isF_some {l : List PV} (h : isF l = true) : ∃ x r, l = .tup [.str x, .int 0] :: r := by
  unfold isF at h
  split at h
  · exact ⟨_, _, rfl⟩
  · cases h
theorem isF_map {g : Nat → Option PV} (hn : NoTup g) {l l' : List PV} (h : mapVs g l = some l') : isF l' = isF l := by
  rw [Bool.eq_iff_iff]
  constructor
  · intro w
    obtain ⟨x, r, rfl⟩ := isF_some w
    obtain ⟨p, ps, rfl, h1, h2⟩ := mapVs_cons h
    rw [mapV_apart hn h1]
    exact w
  · intro w
    obtain ⟨x, r, rfl⟩ := isF_some w
    simp only [mapVs, mapV, Option.bind_some, Option.map_some] at h
    obtain ⟨qs, _, h⟩ := Option.map_eq_some_iff.mp h
    cases h
    exact w
mutual
theorem mapV_rl {g : Nat → Option PV} (pre : ρ <+: ρ') (hn : NoTup g) (hg : ∀ n q a, g n = some q → ρ'[n]? = some a → Rl G ρ H q (.ref a)) : ∀ (p : PV) {q : PV} {v : V}, mapV g p = some q → Rl G ρ' H p v → Rl G ρ H q v
  | .tup l, q, v, h, r => by
    simp only [mapV] at h
    obtain ⟨l', e, rfl⟩ := Option.map_eq_some_iff.mp h
    cases r with
    | tup q ra =>
      have ra' := mapVs_rl pre hn hg l e ra
      refine .tup (xs := _) ?_ ra'
      rcases q with q | ⟨q1, q2⟩
      · refine .inl ?_
        rw [isF_map hn e]
        exact q
      · exact .inr ⟨isW_map q1 e, q2⟩
  | .ftp l, q, v, h, r => by
    simp only [mapV] at h
    obtain ⟨l', e, rfl⟩ := Option.map_eq_some_iff.mp h
    cases r with
    | ftp q ra => exact .ftp q (mapVs_rl pre hn hg l e ra)
  | .lst l, q, v, h, r => by
    simp only [mapV] at h
    obtain ⟨l', e, rfl⟩ := Option.map_eq_some_iff.mp h
    cases r with
    | lst q ra => exact .lst ⟨q.1, out_pre pre q.2⟩ (mapVs_rl pre hn hg l e ra)
  | .scr l, q, v, h, r => by
    simp only [mapV] at h
    obtain ⟨l', e, rfl⟩ := Option.map_eq_some_iff.mp h
    cases r with
    | scr q ra => exact .scr (q.imp (fun q => ⟨q.1, out_pre pre q.2⟩) id) (mapVs_rl pre hn hg l e ra)
  | .err c w, q, v, h, r => by
    simp only [mapV] at h
    obtain ⟨w', e, rfl⟩ := Option.map_eq_some_iff.mp h
    cases r with
    | err h1 h2 h3 h4 => exact .err h1 h2 (out_pre pre h3) (mapV_rl pre hn hg w e h4)
  | .fnv l, q, v, h, r => by
    simp only [mapV] at h
    obtain ⟨l', e, rfl⟩ := Option.map_eq_some_iff.mp h
    cases r with
    | fnv h1 h2 ra => exact .fnv h1 h2 (mapVs_rl pre hn hg l e ra)
  | .dK ks vs, q, v, h, r => by
    simp only [mapV] at h
    obtain ⟨l', e, rfl⟩ := Option.map_eq_some_iff.mp h
    cases r with
    | dK h n k ra => exact .dK h (out_pre pre n) k (mapVs_rl pre hn hg vs e ra)
  | .dT ks vs, q, v, h, r => by
    simp only [mapV] at h
    obtain ⟨l', e, rfl⟩ := Option.map_eq_some_iff.mp h
    cases r with
    | dT h n k ra => exact .dT h (out_pre pre n) k (mapVs_rl pre hn hg vs e ra)
  | .ref n, q, v, h, r => by
    simp only [mapV] at h
    cases r with
    | ref e => exact hg n q _ h e
  | .non, q, v, h, r => by simp only [mapV, Option.some.injEq] at h; subst h; cases r; exact .non
  | .bl b, q, v, h, r => by simp only [mapV, Option.some.injEq] at h; subst h; cases r; exact .bl b
  | .int b, q, v, h, r => by simp only [mapV, Option.some.injEq] at h; subst h; cases r; exact .int b
  | .str b, q, v, h, r => by simp only [mapV, Option.some.injEq] at h; subst h; cases r; exact .str b
  | .con b, q, v, h, r => by
    simp only [mapV, Option.some.injEq] at h; subst h
    cases r with
    | con e => exact .con e
  | .ty b, q, v, h, r => by simp only [mapV, Option.some.injEq] at h; subst h; cases r; exact .ty b
theorem mapVs_rl {g : Nat → Option PV} (pre : ρ <+: ρ') (hn : NoTup g) (hg : ∀ n q a, g n = some q → ρ'[n]? = some a → Rl G ρ H q (.ref a)) : ∀ (ps : List PV) {qs : List PV} {vs : List V}, mapVs g ps = some qs → RlAll G ρ' H ps vs → RlAll G ρ H qs vs
  | [], qs, vs, h, r => by simp only [mapVs, Option.some.injEq] at h; subst h; cases r; exact .nil
  | p :: ps, qs, vs, h, r => by
    simp only [mapVs] at h
    obtain ⟨q, e1, h⟩ := Option.bind_eq_some_iff.mp h
    obtain ⟨qs', e2, rfl⟩ := Option.map_eq_some_iff.mp h
    cases r with
    | cons r1 r2 => exact .cons (mapV_rl pre hn hg p e1 r1) (mapVs_rl pre hn hg ps e2 r2)
end
def idLt (k : Nat) (n : Nat) : Option PV := if n < k then some (.ref n) else none
mutual
theorem idLt_rl : ∀ (p : PV) {v : V}, Rl G ρ H p v → mapV (idLt ρ.length) p = some p
  | .tup l, v, r => by
    cases r with
    | tup q ra => simp only [mapV, idLt_rls l ra, Option.map_some]
  | .ftp l, v, r => by
    cases r with
    | ftp q ra => simp only [mapV, idLt_rls l ra, Option.map_some]
  | .lst l, v, r => by
    cases r with
    | lst q ra => simp only [mapV, idLt_rls l ra, Option.map_some]
  | .scr l, v, r => by
    cases r with
    | scr q ra => simp only [mapV, idLt_rls l ra, Option.map_some]
  | .err c w, v, r => by
    cases r with
    | err h1 h2 h3 h4 => simp only [mapV, idLt_rl w h4, Option.map_some]
  | .fnv l, v, r => by
    cases r with
    | fnv h1 h2 ra => simp only [mapV, idLt_rls l ra, Option.map_some]
  | .dK ks vs, v, r => by
    cases r with
    | dK h n k ra => simp only [mapV, idLt_rls vs ra, Option.map_some]
  | .dT ks vs, v, r => by
    cases r with
    | dT h n k ra => simp only [mapV, idLt_rls vs ra, Option.map_some]
  | .ref n, v, r => by
    cases r with
    | ref e =>
      have hn := (List.getElem?_eq_some_iff.mp e).1
      simp only [mapV, idLt, if_pos hn]
  | .non, v, r => by simp only [mapV]
  | .bl b, v, r => by simp only [mapV]
  | .int b, v, r => by simp only [mapV]
  | .str b, v, r => by simp only [mapV]
  | .con b, v, r => by simp only [mapV]
  | .ty b, v, r => by simp only [mapV]
theorem idLt_rls : ∀ (ps : List PV) {vs : List V}, RlAll G ρ H ps vs → mapVs (idLt ρ.length) ps = some ps
  | [], vs, r => by simp only [mapVs]
  | p :: ps, vs, r => by
    cases r with
    | cons r1 r2 => simp only [mapVs, idLt_rl p r1, idLt_rls ps r2, Option.bind_some, Option.map_some]
end
theorem idLt_no {k : Nat} : NoTup (idLt k) := fun n p h => by
  unfold idLt at h
  split at h
  · cases h; trivial
  · cases h
theorem clipR_no {k : Nat} {st : Store} : ∀ f, NoTup (clipR k st f) := by
  intro f n p h
  cases f with
  | zero =>
    unfold clipR at h
    split at h
    · cases h; trivial
    · cases h
  | succ f =>
    unfold clipR at h
    split at h
    · cases h; trivial
    · split at h
      · obtain ⟨_, _, e⟩ := Option.map_eq_some_iff.mp h; cases e; trivial
      · obtain ⟨_, _, e⟩ := Option.map_eq_some_iff.mp h; cases e; trivial
      · obtain ⟨_, _, e⟩ := Option.map_eq_some_iff.mp h; cases e; trivial
      · cases h
theorem idLt_ok (pre : ρ <+: ρ') : ∀ n q a, idLt ρ.length n = some q → ρ'[n]? = some a → Rl G ρ H q (.ref a) := fun n q a h e => by
  unfold idLt at h
  split at h
  · rename_i hn
    cases h
    obtain ⟨t, rfl⟩ := pre
    rw [List.getElem?_append_left hn] at e
    exact .ref e
  · cases h
theorem shrink_all {ps : List PV} {ws vs : List V} (pre : ρ <+: ρ') (r0 : RlAll G ρ H ps ws) (r : RlAll G ρ' H' ps vs) : RlAll G ρ H' ps vs :=
  mapVs_rl pre idLt_no (idLt_ok pre) ps (idLt_rls ps r0) r
theorem clipR_rl (pre : ρ <+: ρ') (hS : RlS G ρ' H st') : ∀ (f n : Nat) (q : PV) (a : Addr), clipR ρ.length st' f n = some q → ρ'[n]? = some a → Rl G ρ H q (.ref a) := by
  intro f
  induction f with
  | zero =>
    intro n q a h e
    exact idLt_ok pre n q a h e
  | succ f ih =>
    intro n q a h e
    unfold clipR at h
    split at h
    · rename_i hn
      exact idLt_ok pre n q a (by rw [← h]; simp [idLt, hn]) e
    · rename_i hn
      have out : Out G.T ρ a := ⟨fun hm => by
        obtain ⟨m, hm1, hm2⟩ := List.mem_iff_getElem.mp hm
        obtain ⟨t, rfl⟩ := pre
        have e1 : (ρ ++ t)[m]? = some a := by rw [List.getElem?_append_left hm1, List.getElem?_eq_getElem hm1, hm2]
        exact hS.ne e1 e (fun z => hn (z ▸ hm1)) rfl, fun hm => (hS.res a hm).2 (List.mem_of_getElem? e)⟩
      split at h
      · rename_i l es
        obtain ⟨l', e1, rfl⟩ := Option.map_eq_some_iff.mp h
        cases hS.ref e es with
        | lst hh ra => exact .lst ⟨.inl hh, out⟩ (mapVs_rl pre (clipR_no _) ih l e1 ra)
      · rename_i es e2
        obtain ⟨l', e1, rfl⟩ := Option.map_eq_some_iff.mp h
        cases hS.ref e e2 with
        | dK hh hk ra => exact .dK (.inl hh) out hk (mapVs_rl pre (clipR_no _) ih _ e1 ra)
      · rename_i es e2
        obtain ⟨l', e1, rfl⟩ := Option.map_eq_some_iff.mp h
        cases hS.ref e e2 with
        | dT hh hk ra => exact .dT (.inl hh) out hk (mapVs_rl pre (clipR_no _) ih _ e1 ra)
      · cases h
theorem zip_snd {κ : Type} : ∀ (es : List (κ × PV)) (vs : List PV), vs.length = (es.map (·.2)).length → ((es.map (·.1)).zip vs).map (·.1) = es.map (·.1) ∧ ((es.map (·.1)).zip vs).map (·.2) = vs := fun es vs h => by
  have := zip_fst (es.map (·.1)) vs (by rw [h]; simp)
  exact this
theorem clipO_rl (pre : ρ <+: ρ') (hS : RlS G ρ' H st') {o o' : SO} {a : Addr} (h : clipO ρ.length st' o = some o') (r : RlO G ρ' H o a) : RlO G ρ H o' a := by
  cases r with
  | lst hh ra =>
    obtain ⟨l', e1, rfl⟩ := Option.map_eq_some_iff.mp h
    exact .lst hh (mapVs_rl pre (clipR_no 6) (clipR_rl pre hS 6) _ e1 ra)
  | dK hh hk ra =>
    obtain ⟨l', e1, rfl⟩ := Option.map_eq_some_iff.mp h
    obtain ⟨z1, z2⟩ := zip_snd _ l' (mapVs_len e1)
    exact .dK hh (by rw [z1]; exact hk) (by rw [z2]; exact mapVs_rl pre (clipR_no 6) (clipR_rl pre hS 6) _ e1 ra)
  | dT hh hk ra =>
    obtain ⟨l', e1, rfl⟩ := Option.map_eq_some_iff.mp h
    obtain ⟨z1, z2⟩ := zip_snd _ l' (mapVs_len e1)
    exact .dT hh (by rw [z1]; exact hk) (by rw [z2]; exact mapVs_rl pre (clipR_no 6) (clipR_rl pre hS 6) _ e1 ra)
  | ins hc hh hk ra =>
    obtain ⟨l', e1, rfl⟩ := Option.map_eq_some_iff.mp h
    obtain ⟨z1, z2⟩ := zip_snd _ l' (mapVs_len e1)
    exact .ins hc hh (by rw [z1]; exact hk) (by rw [z2]; exact mapVs_rl pre (clipR_no 6) (clipR_rl pre hS 6) _ e1 ra)
theorem gcS_at {k : Nat} : ∀ {l l' s : List SO}, gcS k st' l l' = some s → s.length = l.length ∧ ∀ (n : Nat) (o : SO), s[n]? = some o → ∃ o1 o2, l[n]? = some o1 ∧ l'[n]? = some o2 ∧ gcO k st' o1 o2 = some o
  | [], l', s, h => by simp only [gcS, Option.some.injEq] at h; subst h; exact ⟨rfl, fun n o h => by simp at h⟩
  | o :: r, [], s, h => by simp [gcS] at h
  | o :: r, o' :: r', s, h => by
    simp only [gcS] at h
    obtain ⟨x, e1, h⟩ := Option.bind_eq_some_iff.mp h
    obtain ⟨s', e2, rfl⟩ := Option.map_eq_some_iff.mp h
    obtain ⟨h1, h2⟩ := gcS_at e2
    refine ⟨by simp [h1], fun n u hn => ?_⟩
    cases n with
    | zero => simp at hn; subst hn; exact ⟨o, o', rfl, rfl, e1⟩
    | succ n => exact h2 n u (by simpa using hn)
theorem gcS_rl {s : Store} (hS : RlS G ρ H st) (x : Ext G.T ρ H ρ' H') (hS' : RlS G ρ' H' st') (h : gcS st.length st' st st' = some s) : RlS G ρ H' s := by
  obtain ⟨hl, ha⟩ := gcS_at h
  refine ⟨by rw [hl]; exact hS.len, hS.nd, fun n o a h1 h2 => ?_, hS'.tabs, fun a hm => ⟨(hS'.res a hm).1, fun z => (hS'.res a hm).2 (x.pre.subset z)⟩⟩
  obtain ⟨o1, o2, e1, e2, e3⟩ := ha n o h1
  have h3 : ρ'[n]? = some a := by
    obtain ⟨t, et⟩ := x.pre
    rw [← et, List.getElem?_append_left (List.getElem?_eq_some_iff.mp h2).1]
    exact h2
  have r' := hS'.ref h3 e2
  unfold gcO at e3
  split at e3
  · rename_i eo
    subst eo
    cases e3
    have r0 := hS.ref h2 e1
    cases r0 with
    | lst hh ra =>
      cases r' with
      | lst hh' ra' => exact .lst hh' (shrink_all x.pre ra ra')
    | dK hh hk ra =>
      cases r' with
      | dK hh' hk' ra' => exact .dK hh' hk' (shrink_all x.pre ra ra')
    | dT hh hk ra =>
      cases r' with
      | dT hh' hk' ra' => exact .dT hh' hk' (shrink_all x.pre ra ra')
    | ins hc hh hk ra =>
      cases r' with
      | ins hc' hh' hk' ra' => exact .ins hc' hh' hk' (shrink_all x.pre ra ra')
  · rw [← hS.len] at e3
    exact clipO_rl x.pre hS' e3 r'
theorem Ext.short (x : Ext G.T ρ H ρ' H') : Ext G.T ρ H ρ H' := ⟨List.prefix_refl _, x.keep, fun _ h => .inl h, x.free, x.tups, x.rs⟩
theorem gc_ok {Q : VK} {r : Res PV} (hS : RlS G ρ H st) (h : Pst G E ρ H (KV G Q) (gcR st r)) : Pst G E ρ H (KV G Q) r := by
  cases r with
  | ok p st' =>
    unfold gcR at h
    dsimp only at h
    split at h
    · rename_i v s e1 e2
      intro ρ' H' x s' u r
      refine h ρ H' x.short (gcS_rl hS x s' e2) u ?_
      rw [← hS.len] at e1
      exact mapV_rl x.pre (clipR_no 6) (clipR_rl x.pre s' 6) p e1 r
    · exact h.elim
  | exc c p st' =>
    unfold gcR at h
    dsimp only at h
    split at h
    · rename_i v s e1 e2
      intro ρ' H' ca d u x s' hc hd hn r
      refine h ρ H' ca d u x.short (gcS_rl hS x s' e2) hc hd (out_pre x.pre hn) ?_
      rw [← hS.len] at e1
      exact mapV_rl x.pre (clipR_no 6) (clipR_rl x.pre s' 6) p e1 r
    · exact h.elim
  | fail => exact h
end
def dFnK (n m : Nat) (f : DS) (ps : List PV) : M PV := fun st => if ps.length = n then (f (ps.map some ++ List.replicate (m - n) none) st).bind fun r st' => match r.1 with
  | .rt v => .ok v st'
  | .nx => .ok .non st'
  | _ => .fail
  else .fail
noncomputable def dFn (n m : Nat) (f : DS) (ps : List PV) : M PV := fun st => gcR st (dFnK n m f ps st)
structure TBL where
  tabs : List (Addr × Str)
  lam : Option Lm
def Tok (tb : TBL) (T : TR) : Prop := T.err = none ∧ T.tabs = tb.tabs ∧ T.lam = tb.lam
def spD (K : PySem.W.Frag) (mg : Str → Option Value) (tb : TBL) (n : Nat) (d : List PV → M PV) : Sp := fun vs H Q E => ∃ (T : TR) (ρ : List Addr) (ps : List PV) (st : Store), Tok tb T ∧ RlS ⟨K, mg, T⟩ ρ H st ∧ RlAll ⟨K, mg, T⟩ ρ H ps vs ∧ ps.length = n ∧ Pst ⟨K, mg, T⟩ E ρ H (KV ⟨K, mg, T⟩ Q) (d ps st)
structure FnD (P : Program) (w : World) (K : PySem.W.Frag) (mg : Str → Option Value) (base : Heap) (tb : TBL) (k : Nat) (f : Addr) (fd : FuncData) (ps : List Str) (d : List PV → M PV) : Prop where
  ok : FnOkG P w K mg base k f fd ps (spD K mg tb ps.length d)
  ar : ∀ qs st, d qs st ≠ .fail → qs.length = ps.length
section
variable {P : Program} {w : World} {K : PySem.W.Frag} {mg : Str → Option Value} {base : Heap} {x qual : Str} {params : Arguments} {body : List Stmt} {scope : Scope} {f : Addr} {fd : FuncData} {N ps : List Str} {k : Nat} {g : DS} {tb : TBL}
theorem rlE_start {G : DG} {ρ : List Addr} {H : Hp} {qs : List PV} {vs : List V} (r : RlAll G ρ H qs vs) (hn : qs.length = ps.length) : RlE G ρ H (qs.map some ++ List.replicate (N.length - ps.length) none) (L2.start N vs) := by
  have hl := r.length
  refine ⟨by simp [L2.start, hl, ← hn], fun i p h => ?_⟩
  unfold L2.start
  by_cases hi : i < qs.length
  · rw [List.getElem?_append_left (by simpa using hi), List.getElem?_map] at h
    obtain ⟨q, e, e2⟩ := Option.map_eq_some_iff.mp h
    cases e2
    obtain ⟨v, e3, r3⟩ := r.get e
    exact ⟨v, by rw [List.getElem?_append_left (by rw [List.length_map, ← hl]; exact hi), List.getElem?_map, e3]; rfl, r3⟩
  · rw [List.getElem?_append_right (by simpa using hi), List.getElem?_replicate] at h
    split at h <;> cases h
theorem fn_okK {dv : List V} {kw : List (Str × V)} (F : FunD K x qual params body scope dv kw f fd) (S : FnScope N ps scope)
    (hb : ∀ (T : TR) (_ : Tok tb T) (cdv : Value) (A : Around) (outer : List Env) (s : Shared) (H : Hp) (E : XK), RoomG k (A.deeper (envOfC qual scope s.heap.objs.size f cdv)) → ESs (cxOf (L2N.CX P w) P w K mg base N qual scope f cdv A outer s H E) T E body g) :
    FnD P w K mg base tb (k + 1) f fd ps (dFnK ps.length N.length g) :=
  ⟨FnOkG.ofD F S (fun vs H Q E ⟨T, ρ, qs, st, _, _, r, hn, _⟩ => by rw [← r.length, hn]) fun cdv A outer s H vs Q E hr ⟨T, ρ, qs, st, hT, hS, r, hn, h⟩ => by
    refine ⟨_, hb T hT cdv A outer s H E hr, ρ, _, st, rlE_start (ps := ps) r hn, hS, ?_⟩
    unfold dFnK at h
    rw [if_pos hn] at h
    refine h.bind.imp fun r' st' ρ' H' _ _ z σ' e' => ?_
    obtain ⟨fl, a'⟩ := r'
    cases fl with
    | nx => exact z.2.2.ret z.2.1 _ .non
    | bk => exact z.2.2.elim
    | ct => exact z.2.2.elim
    | rt v => exact fun u ru => z.2.2.ret z.2.1 u ru, fun qs st h => by
    unfold dFnK at h
    split at h
    · assumption
    · exact (h rfl).elim⟩
theorem fn_ok {dv : List V} {kw : List (Str × V)} (F : FunD K x qual params body scope dv kw f fd) (S : FnScope N ps scope)
    (hb : ∀ (T : TR) (_ : Tok tb T) (cdv : Value) (A : Around) (outer : List Env) (s : Shared) (H : Hp) (E : XK), RoomG k (A.deeper (envOfC qual scope s.heap.objs.size f cdv)) → ESs (cxOf (L2N.CX P w) P w K mg base N qual scope f cdv A outer s H E) T E body g) :
    FnD P w K mg base tb (k + 1) f fd ps (dFn ps.length N.length g) :=
  ⟨(fn_okK F S hb).ok.imp fun vs H Q E ⟨T, ρ, qs, st, hT, hS, r, hn, h⟩ => ⟨T, ρ, qs, st, hT, hS, r, hn, gc_ok hS h⟩, fun qs st h => (fn_okK F S hb).ar qs st fun e => h (by unfold dFn; rw [e]; rfl)⟩
end
section
variable {X : Cx} {T : TR} {E : XK} {x : Str} {f : Addr} {fd : FuncData} {ps : List Str} {k : Nat} {tb : TBL} {d : List PV → M PV} {e : Expr} {es : List Expr} {fs : DA} {p pos : Pos}
abbrev Lets (X : Cx) (E : XK) : Prop := Passes (L2N.CX X.prog X.w) X E
theorem lets_never : Lets X E0' := fun _ _ _ _ _ _ _ ⟨_, _, _, _, _, _, _, _, _, _, _, _, h⟩ => h.elim
theorem lets_def (tk : L2N.Takes X fun cls d _ H => E cls d H) : Lets X E := L2N.passes_call tk fun _ _ _ _ h => h
abbrev FnX (X : Cx) (tb : TBL) (k : Nat) (f : Addr) (fd : FuncData) (ps : List Str) (d : List PV → M PV) : Prop := FnD X.prog X.w X.K X.mg X.base tb k f fd ps d
theorem ev_call (F : FnX X tb k f fd ps d) (hr : RoomG k X.A) (hg : Gl X x) (hm : X.mg x = some (.ref f)) (hk : PySem.W.keepIn X.K (.ref f) = true) (hb : Binds X.K fd ps []) (hT : Tok tb T) (hx : Lets X E) (ha : EA X T E (e :: es) fs)
    (hdb : (x == ("__debug__" : Str)) = false := by decide) (he : starEach (e :: es) X.env = (false, eval e X.env) :: starEach es X.env := by rfl) (hpl : (backTo pos (starEach es X.env)).any (·.1) = false := by rfl) :
    EV X T E (.Call (.Name x p) (e :: es) [] pos) (dAl d fs) :=
  pe_imp (pe_callG F.ok hr hg hm hk hb hx ha hdb he hpl) fun σ H Q q => by
  obtain ⟨ρ, aσ, st, hE, hS, h⟩ := q
  refine ta_bind hE hS h fun ρ1 H1 xs vs st1 _ s1 _ r h => ?_
  exact ⟨T, ρ1, xs, st1, hT, s1, r, F.ar xs st1 fun e => by rw [e] at h; exact h, h⟩
end
end DN
namespace DN
open PySem PySem.Spec PyProof.Rows L2
section
variable {X : Cx} {T : TR} {E : XK} {G : DG} {ρ : List Addr} {H : Hp} {σ : St} {aσ : AE} {st : Store}
variable {e o a b c : Expr} {f g h fo fa fb fc : DE} {pos : Pos}
def isT (p : PV) (_ : Store) : Bool := match p with
  | .tup l => isF l && !isW l
  | _ => false
def mIndexT (x : PV) (xs : List PV) : M PV := fun st => match xs with
  | [y] => (match toD x st, toD y st with
    | some (.tuple ds), some d => if SeqAt.shaped (.tuple ds) = true ∧ SeqAt.shaped d = true then (match idxD d ds with
      | some j => .ok (.int (j : Nat)) st
      | none => .fail) else .fail
    | _, _ => .fail)
  | _ => .fail
variable {es : List Expr} {name : Str} {apos cpos : Pos} {id : String} {r : V → List V → Hp → VK → Prop} {d : PV → List PV → M PV} {fs : DA}
theorem es_par (i j : Nat) {x y : Str} {px py pt : Pos} {kt k2 : Nat} {pt2 : Pos} (hc : X.calm = true) (hN : X.N.Nodup) (ha : EA X T E [a, b] fs) (hi : X.N[i]? = some x := by rfl) (hj : X.N[j]? = some y := by rfl) (hij : i ≠ j := by decide)
    (hx : X.env.scope.names.lookup x = some .local := by rfl) (hy : X.env.scope.names.lookup y = some .local := by rfl)
    (hw : swappedStores [.Tuple [.Name x px, .Name y py] kt pt] (.Tuple [a, b] k2 pt2) X.env = pure (some [x, y]) := by rfl)
    (hs : swapsWithSole [.Tuple [.Name x px, .Name y py] kt pt] (.Tuple [a, b] k2 pt2) pos.line X.env = pure false := by rfl) :
    ES X T E (.Assign [.Tuple [.Name x px, .Name y py] kt pt] (.Tuple [a, b] k2 pt2) pos) (sPar i j fs) := ps_imp (ps_par hc hN hi hj hij hx hy ha hw hs) fun D σ H q => by
  obtain ⟨ρ, aσ, st, hE, hS, h⟩ := q
  refine ta_bind hE hS h fun ρ1 H1 xs vs st1 x1 s1 e1 rs h => ?_
  split at h
  · obtain ⟨v, w, rfl, r1, r2⟩ := all2 rs
    exact ⟨v, w, rfl, h.ret s1 _ ((e1.set r1).set r2)⟩
  · exact h.elim
def dNewK : DE := fun _ st => .ok (.ref st.length) (st ++ [.dK []])
def dNewT : DE := fun _ st => .ok (.ref st.length) (st ++ [.dT []])
end
end DN
namespace DN
open PySem PySem.Spec PyProof.Rows L2
def dPairs : List (DE × DE) → AE → M (List (PV × PV))
  | [], _, st => .ok [] st
  | (k, v) :: r, σ, st => (noX (k σ st)).bind fun x st => (noX (v σ st)).bind fun y st => (dPairs r σ st).bind fun ps st => .ok ((x, y) :: ps) st
def kPairs : List (PV × PV) → Option (List (Key × PV))
  | [] => some []
  | (k, v) :: r => (kOf k).bind fun k => (kPairs r).map fun l => (k, v) :: l
def mergeA {κ α : Type} [DecidableEq κ] (es more : List (κ × α)) : List (κ × α) := more.foldl (fun acc kv => putA acc kv.1 kv.2) es
def mDkR (ps : List (PV × PV)) : M PV := fun st => match kPairs ps with
  | some es => if es.length ≤ 15 then .ok (.ref st.length) (st ++ [.dK (mergeA [] es)]) else .fail
  | none => .fail
def dDisp (m : List (PV × PV) → M PV) (l : List (DE × DE)) : DE := fun σ st => (dPairs l σ st).bind m
section
variable {X : Cx} {T : TR} {E : XK} {G : DG} {ρ ρ' ρ1 : List Addr} {H H' H1 : Hp} {σ : St} {aσ : AE} {st st' : Store} {D : Addr} {pos : Pos}
inductive RlPs (G : DG) (ρ : List Addr) (H : Hp) : List (PV × PV) → List (V × V) → Prop where
  | nil : RlPs G ρ H [] []
  | cons {p q : PV} {v w : V} {ps : List (PV × PV)} {vs : List (V × V)} : Rl G ρ H p v → Rl G ρ H q w → RlPs G ρ H ps vs → RlPs G ρ H ((p, q) :: ps) ((v, w) :: vs)
end
end DN
namespace DN
open PySem PySem.Spec PyProof.Rows L2
def Cal (P : Program) (w : World) (K : PySem.W.Frag) (mg : Str → Option Value) (base : Heap) (tb : TBL) (k : Nat) (x : Str) (ps : List Str) (d : List PV → M PV) : Prop :=
  ∃ f fd, FnD P w K mg base tb k f fd ps d ∧ mg x = some (.ref f) ∧ PySem.W.keepIn K (.ref f) = true ∧ Binds K fd ps []
def sFail : DS := fun _ _ => .fail
section
variable {X : Cx} {T : TR} {E : XK} {x : Str} {ps : List Str} {k j : Nat} {tb : TBL} {d : List PV → M PV} {e : Expr} {es : List Expr} {fs : DA} {p pos : Pos}
theorem ev_cal (C : Cal X.prog X.w X.K X.mg X.base tb k x ps d) (hr : RoomG k X.A) (hg : Gl X x) (hT : Tok tb T) (hx : Lets X E) (ha : EA X T E (e :: es) fs)
    (hdb : (x == ("__debug__" : Str)) = false := by decide) (he : starEach (e :: es) X.env = (false, eval e X.env) :: starEach es X.env := by rfl) (hpl : (backTo pos (starEach es X.env)).any (·.1) = false := by rfl) :
    EV X T E (.Call (.Name x p) (e :: es) [] pos) (dAl d fs) := by
  obtain ⟨f, fd, F, hm, hk, hb⟩ := C
  exact ev_call F hr hg hm hk hb hT hx ha hdb he hpl
theorem hu_room {A : Around} {k : Nat} (hr : RoomG k A) : A.units + 65 < cLine := by
  have := hr.room.un
  omega
end
end DN
set_option maxHeartbeats 4000000
namespace DN
open PySem PySem.Spec PyProof.Rows L2
def hp0 (a : Addr) (Ts : List Addr) (sc : Option HO) : Hp := fun b => if b = a then sc else if b ∈ Ts then some (.tbl #[]) else none
section
variable {a b : Addr} {Ts : List Addr} {sc : Option HO}
theorem hp0_a : hp0 a Ts sc a = sc := by simp [hp0]
theorem hp0_t (h : b ∈ Ts) (n : b ≠ a) : hp0 a Ts sc b = some (.tbl #[]) := by simp [hp0, h, n]
theorem hp0_n (h : b ∉ Ts) (n : b ≠ a) : hp0 a Ts sc b = none := by simp [hp0, h, n]
end
theorem law_callG {P : Program} {w : World} {K : PySem.W.Frag} {mg mb : Str → Option Value} {k : Nat} {fa a : Addr} {cs : List (Addr × Addr)} {fd : FuncData} {x : Str} {sp : Sp} {s : Shared} {vs : List Value} {ns : List Int}
    (KX : K.In s.heap) (gl : s.heap.Ns mainGlobals mg) (bl : s.heap.Ns builtinsNs mb) (bo : ∀ x : Str, x ≠ "__name__" → mb x = bootBuiltins x) (lim : s.heap.NoLimit) (gn : s.gens = #[])
    (tabs : ∀ p ∈ cs, s.heap.get? p.2 = some { cls := .none, data := .fields #[] }) (noK : ∀ p ∈ cs, K.lookup p.2 = none) (cod : ∀ p ∈ cs, PySem.W.CodeHd s.heap p.1 p.2)
    (blm : ∃ (bm : Addr) (ob : Obj), mg "__builtins__" = some (.ref bm) ∧ bm ≠ builtinsNs ∧ s.heap.get? bm = some ob ∧ ob.cls = .type "module" ∧ ob.dict = some builtinsNs ∧ ob.data = .plain)
    (scr : s.heap.get? a = some { cls := .type "list", data := .seq vs.toArray }) (hi : IntsAre vs ns) (len : ns.length ≤ sizeLine) (room : Room k callerA)
    (F : ∀ base : Heap, (∀ p ∈ cs, LamX.TabB base mg p.1 p.2) → FnOkG P w K mg base k fa fd [x] sp) (bind : ∀ (s : Shared) (u : Value), BindsTo s fd ⟨[u], []⟩ [(x, u)])
    (hsp : ∀ H : Hp, (∀ p ∈ cs, H p.2 = some (.tbl #[])) → SqL K H a (ns.map V.int) → sp [.ref a] H (fun v _ => v = .bl true) E0') :
    codeAny (model P w) callerA (.call (.ref fa) ⟨[.ref a], []⟩) (fun r s' => r = .ok (.ret (.bool true)) ∧ OldK s.heap s'.heap ∧ s'.os = s.os ∧ AllBare s'.gens) s := by
  let Ts := cs.map (·.2)
  have inTs : ∀ p ∈ cs, p.2 ∈ Ts := fun p h => List.mem_map.mpr ⟨p, h, rfl⟩
  have tabAt : ∀ b ∈ Ts, s.heap.get? b = some { cls := .none, data := .fields #[] } := by
    intro b h
    obtain ⟨p, h1, rfl⟩ := List.mem_map.mp h
    exact tabs p h1
  have notT : a ∉ Ts := by
    intro h
    have e := tabAt a h
    rw [scr] at e
    cases e
  have vals := vals_ints hi
  have vlen : vs.length ≤ sizeLine := by have := hi.length; omega
  let fz : HO := .frz { cls := .type "list", data := .seq vs.toArray } (.lst (ns.map V.int))
  obtain ⟨sc, hsc⟩ : ∃ sc : Option HO, (sc = none ∧ ∃ o, K.lookup a = some o) ∨ (sc = some fz ∧ K.lookup a = none) := by
    cases h : K.lookup a with
    | some o => exact ⟨none, .inl ⟨rfl, o, rfl⟩⟩
    | none => exact ⟨some fz, .inr ⟨rfl, rfl⟩⟩
  let H : Hp := hp0 a Ts sc
  have tracked : ∀ b, H b = none ∨ (b ∈ Ts ∧ H b = some (.tbl #[])) ∨ (b = a ∧ H b = some fz ∧ K.lookup a = none) := by
    intro b
    by_cases e : b = a
    · subst e
      rcases hsc with ⟨h, _⟩ | ⟨h, n⟩
      · exact .inl (by show hp0 b Ts sc b = none; rw [hp0_a, h])
      · exact .inr (.inr ⟨rfl, by show hp0 b Ts sc b = some fz; rw [hp0_a, h], n⟩)
    · by_cases t : b ∈ Ts
      · exact .inr (.inl ⟨t, hp0_t t e⟩)
      · exact .inl (hp0_n t e)
  -- what is no list and no empty table is not tracked
  have un : ∀ {b : Addr} {o : Obj}, s.heap.get? b = some o → (∀ l n, o.data ≠ .seq l n) → o.data ≠ .fields #[] → (hidT s.heap H).get? b = some o := by
    intro b o e n1 n2
    apply hidT_get e
    rcases tracked b with h | ⟨h, _⟩ | ⟨h, _⟩
    · exact h
    · rw [tabAt b h] at e
      cases e
      exact absurd rfl n2
    · rw [h, scr] at e
      cases e
      exact absurd rfl (n1 _ _)
  have unNs : ∀ {b : Addr} {m : Str → Option Value}, s.heap.Ns b m → (hidT s.heap H).Ns b m := by
    rintro b m ⟨o, es, ep, e, d, r⟩
    exact ⟨o, es, ep, un e (fun l n z => by rw [d] at z; cases z) (fun z => by rw [d] at z; cases z), d, r⟩
  have KB : K.In (hidT s.heap H) := by
    intro b o e
    apply hidT_get (KX b o e)
    rcases tracked b with h | ⟨h, _⟩ | ⟨h, _, n⟩
    · exact h
    · obtain ⟨p, h1, h2⟩ := List.mem_map.mp h
      have z := noK p h1
      rw [show p.2 = b from h2, e] at z
      cases z
    · rw [h, n] at e
      cases e
  have mods : L2.Mod K mg (hidT s.heap H) := by
    obtain ⟨mc, l1, l2⟩ := lim
    exact ⟨KB, unNs gl, ⟨mb, unNs bl, bo⟩, ⟨mc, unNs l1, l2⟩⟩
  have TB : ∀ p ∈ cs, LamX.TabB (hidT s.heap H) mg p.1 p.2 := by
    intro p hp
    have tp := tabs p hp
    constructor
    · obtain ⟨o, us, file, tf, flags, tg, inF, text, tt, e1, e2, e3, e4⟩ := cod p hp
      refine ⟨o, us, file, tf, flags, tg, inF, text, tt, un e1 (fun l n z => ?_) (fun z => ?_), e2, e3, e4⟩
      · rw [e3] at z; cases z
      · rw [e3] at z; cases z; simp at e4
    · obtain ⟨bm, ob, b1, b2, b3, b4, b5, b6⟩ := blm
      have plain : ∀ l n, ob.data ≠ .seq l n := fun l n z => by rw [b6] at z; cases z
      have plain2 : ob.data ≠ .fields #[] := fun z => by rw [b6] at z; cases z
      refine ⟨bm, ob, b1, b2, ?_, ?_, un b3 plain plain2, b4, b5, b6⟩
      · intro e
        obtain ⟨o, es, ep, e1, e2, _⟩ := gl
        rw [← e, b3] at e1
        cases e1
        rw [b6] at e2
        cases e2
      · intro e
        rw [e, tp] at b3
        cases b3
        cases b6
    · intro e
      obtain ⟨o, es, ep, e1, e2, _⟩ := gl
      rw [e, tp] at e1
      cases e1
      cases e2
  have hok : HOk P w H s.heap := by
    intro b u e
    rcases tracked b with h | ⟨h, h'⟩ | ⟨h, h', _⟩
    · rw [h] at e; cases e
    · rw [h'] at e; cases e
      exact tabAt b h
    · rw [h'] at e; cases e
      subst h
      exact ⟨scr, by rw [List.length_map]; exact len, vs, _, vals, scr⟩
  have seq : SqL K H a (ns.map V.int) := by
    rcases hsc with ⟨h, o, ho⟩ | ⟨h, _⟩
    · have e := KX a o ho
      rw [scr] at e
      cases e
      exact .inr ⟨_, vs.toArray, _, ho, rfl, rfl, rfl, by rw [List.size_toArray]; exact vlen, by simpa using vals⟩
    · exact .inl (.inr ⟨_, show hp0 a Ts sc a = some fz by rw [hp0_a, h]⟩)
  have env : Env0 P w K mg (hidT s.heap H) callerA [] s H :=
    ⟨rfl, mods, fun b o e => of_hidT e, Nat.le_of_eq (hidT_size _ _), trivial, fun b h => absurd h (by simp [frs]), hok, .of_eq gn⟩
  have hTs : ∀ p ∈ cs, H p.2 = some (.tbl #[]) := fun p hp => hp0_t (inTs p hp) fun e => notT (by rw [← e]; exact inTs p hp)
  have run := (F _ TB).run callerA [] s H ⟨[.ref a], []⟩ [.ref a] [.ref a] (fun v _ => v = .bl true) E0' ⟨room, rfl⟩ env (bind s (.ref a)) (.cons rfl .nil) (hsp H hTs seq)
  apply codeAny_mono run
  intro r s' z
  match r, z with
  | .error e, z =>
    obtain ⟨_, _, _, _, _, _, _, _, _, _, _, _, h⟩ := z
    exact h.elim
  | .ok .next, z => exact z.elim
  | .ok .brk, z => exact z.elim
  | .ok .cont, z => exact z.elim
  | .ok (.ret u), ⟨v, H', os, bare, kept, hok', rv, ev⟩ =>
    have ev : v = .bl true := ev
    subst ev
    have eu : u = Value.bool true := rv
    subst eu
    have old : ∀ b o, b ∉ Ts → s.heap.get? b = some o → s'.heap.get? b = some o := by
      intro b o n e
      rcases tracked b with h | ⟨h, _⟩ | ⟨_, h, _⟩
      · exact kept.keep b o e h (by simp [frs]) (by simp)
      · exact absurd h n
      · obtain ⟨e1, _⟩ := hok b _ h
        obtain ⟨e2, _⟩ := hok' b _ (kept.frzs b _ _ h)
        rw [e] at e1
        cases e1
        exact e2
    have more : ∀ p ∈ cs, ∃ l : Array Value, s'.heap.get? p.2 = some { cls := .none, data := .fields l } := by
      intro p hp
      obtain ⟨l, h⟩ := kept.tbls p.2 #[] (hTs p hp)
      exact ⟨_, hok' p.2 _ h⟩
    refine ⟨rfl, ⟨?_, ?_⟩, os, bare⟩
    · intro b o e
      by_cases h : b ∈ Ts
      · obtain ⟨p, hp, rfl⟩ := List.mem_map.mp h
        obtain ⟨l, hl⟩ := more p hp
        rw [tabs p hp] at e
        cases e
        exact .inr (.inl ⟨((cod p hp).tab (tabs p hp)).isCodeTable, rfl, #[], l, rfl, by simpa using hl⟩)
      · exact .inl (old b o h e)
    · intro b o e
      by_cases h : b ∈ Ts
      · obtain ⟨p, hp, rfl⟩ := List.mem_map.mp h
        obtain ⟨l, hl⟩ := more p hp
        exact ⟨_, hl⟩
      · exact ⟨o, old b o h e⟩
theorem law_walkT {l : PySem.W.OpenLaw} {k : Nat} {q : Program} {loose : List Str} {XP : (Str → Option Value) → Heap → Prop} {YP : World → Heap → Prop} {d : DefRec} {dl : List PV → M PV} {x : Str}
    (hn : l.most = some 63) (hdf : d.params.defaults = []) (hr : Room k callerA)
    (F : ∀ (w : World) (mg : Str → Option Value) (h : Heap), YP w h → h.Ns mainGlobals mg → ∃ (K : PySem.W.Frag) (fa : Addr) (fd : FuncData) (cs : List (Addr × Addr)) (tb : List (Addr × Str)), K.In h ∧ mg d.name = some (.ref fa) ∧ (∀ (s : Shared) (us : List Value), us.length = 1 → BindsTo s fd ⟨us, []⟩ ([x].zip us)) ∧
      (∀ p ∈ cs, h.get? p.2 = some { cls := .none, data := .fields #[] }) ∧ (∀ p ∈ cs, K.lookup p.2 = none) ∧ (∀ p ∈ cs, PySem.W.CodeHd h p.1 p.2) ∧ (∀ p ∈ tb, ∃ c, (c, p.1) ∈ cs) ∧
      ∀ base : Heap, (∀ p ∈ cs, LamX.TabB base mg p.1 p.2) → FnD l.prog w K mg base ⟨tb, none⟩ k fa fd [x] dl)
    (ht : ∀ ns : List Int, ns.length ≤ 63 → (∀ z ∈ ns, Builtin.Int.intBits z ≤ 1048576) → ∃ st, dl [.scr (ns.map PV.int)] [] = .ok (.bl true) st) :
    PySem.W.WalkO q loose XP YP l.row.toRowW d [] (fun f vs => PySem.call f vs) := by
  refine Att.attach_callB hn hdf fun w s₀ s₁ mg mb fa o pm cd doc a vs ns G Y ho hd hcd hmg hobj hints hlen hbits hg => ?_
  obtain ⟨K, fa', fd, cs, tb, KX, hfa, hb, hT, nT, C, htb, hF⟩ := F w mg _ Y G.T.g
  rw [hmg] at hfa
  cases hfa
  refine law_callG (cs := cs) KX G.T.g G.T.b G.T.builtins G.T.nolimit hg hT nT C G.T.bmain hobj hints (Nat.le_trans hlen (by decide)) hr (fun base TB => (hF base TB).ok) (fun s u => hb s [u] rfl) fun H hH hS => ?_
  obtain ⟨st, e⟩ := ht ns hlen hbits
  refine ⟨⟨tb, [], none, none⟩, [], _, [], ⟨rfl, rfl, rfl⟩, ⟨rfl, List.nodup_nil, (fun n o a h => by simp at h), (fun p hp => ?_), (fun a ha => by cases ha)⟩, .cons (.scr (xs := ns.map V.int) ?_ (rl_ints ns)) .nil, rfl, ?_⟩
  · obtain ⟨c, hc⟩ := htb p hp
    exact LamX.TabS.nil (hH _ hc)
  · rcases hS with h | h
    · exact .inl ⟨h, by simp, by simp⟩
    · exact .inr fun _ => .inr h
  · rw [e]
    intro ρ' H' _ _ v r
    cases r
    rfl
end DN
namespace DNX
open PySem PySem.Spec PyProof.Rows L2 L2H HotX
section
variable {X : Cx} {e : Expr} {es : List Expr} {ta : TA} {p pos : Pos}
theorem pmk_oexN {CX : CXT} {x : Str} {C fI : Addr} {k : Nat} {fd : FuncData} {ps : List Str} {sp : Sp} (T : OexC X.K C) (iC : PySem.W.findIn X.K (.ref C) "__init__" = some (some (.ref fI))) (tI : PySem.W.typeIn X.K (.ref fI) = some (.type "function"))
    (F1 : FnOk X.prog X.w X.K X.mg X.base CX k fI fd ps sp) (hr : Room (k + 1) X.A) (hb : Binds X.K fd ps []) (hx : Passes CX X (fun _ _ _ => False)) (hg : Gl X x) (hm : X.mg x = some (.ref C)) (ha : PA X (e :: es) ta)
    (hdb : (x == ("__debug__" : Str)) = false := by decide) (he : starEach (e :: es) X.env = (false, eval e X.env) :: starEach es X.env := by rfl) (hpl : (backTo pos (starEach es X.env)).any (·.1) = false := by rfl) :
    L2N.PMk X (.Call (.Name x p) (e :: es) [] pos) (tMkO C sp [] ta) := by
  intro pins s σ H Q I h
  obtain ⟨nm, q, N, bs, bm, sn, sub, ab, col, dd, k0, k1, k2, k3, k5, hC, hbm⟩ := T.cls
  refine wpAny_Call_Name_kw (ld_glob I hg hm ?_ hdb)
  refine PySem.W.callWith_K (h₀ := X.base) I.ok.mod.kin T.kC (thn (ha.run pos pins s σ H _ I h) fun us s1 ⟨vs, H1, I1, r1, hz, q1⟩ => ⟨I1.kIn, ?_⟩) he hpl
  show wpAny _ _ (call (.ref C) us) _ _ _
  obtain ⟨hp, g, dr, tk, os⟩ := s1
  have hsz : hp.objs.size ≤ hp.objs.size + 1 := Nat.le_succ _
  have hn : H1 (hp.objs.size + 1) = none := I1.hok.fresh hsz
  have hq := q1 (hp.objs.size + 1) hn
  rw [List.append_nil] at hq
  have kk : ∀ b o, hp.get? b = some o → ((hp.push (PySem.W.kdv_tup us)).push (PySem.HandSPX.excO C hp.objs.size)).get? b = some o := fun b o e => Heap.get?_push_of_some _ (Heap.get?_push_of_some _ e)
  have hget : ((hp.push (PySem.W.kdv_tup us)).push (PySem.HandSPX.excO C hp.objs.size)).get? (hp.objs.size + 1) = some (PySem.HandSPX.excO C hp.objs.size) := by heap_get
  have I2 : Inv X pins σ (upd H1 (hp.objs.size + 1) (exo (hp.objs.size + 1) C none)) ⟨(hp.push (PySem.W.kdv_tup us)).push (PySem.HandSPX.excO C hp.objs.size), g, dr, tk, os⟩ :=
    I1.laid (t' := tk) (a := hp.objs.size + 1) (o := exo (hp.objs.size + 1) C none) (h' := (hp.push (PySem.W.kdv_tup us)).push (PySem.HandSPX.excO C hp.objs.size)) kk hsz (exo_ok hget)
  have r2 : Vals (V.ref (hp.objs.size + 1) :: vs) (Value.ref (hp.objs.size + 1) :: us) := .cons rfl r1
  have hl : (Value.ref (hp.objs.size + 1) :: us ++ []).length = ps.length := by
    have e := r2.length
    rw [F1.len _ _ _ _ hq] at e
    rw [List.append_nil]
    exact e.symm
  have hus : us.length ≤ sizeLine := by
    rw [← Paired.length r1, sizeLine_eq]
    omega
  have b2 := hb _ (Value.ref (hp.objs.size + 1) :: us) I2.kIn hl
  rw [List.append_nil] at b2
  refine wpAny_call (PySem.HandSPX.call_own F.excBase_ValueError (fun Y => PySem.HandSPX.refsVE_contains Y bm hbm) (I1.kIn _ _ hC) (PySem.W.looks_findIn I1.kIn iC) (fun self => PySem.W.bind_fn I1.kIn self tI) hus
    (codeAny_mono (F1.run _ X.stack _ _ ⟨Value.ref (hp.objs.size + 1) :: us, []⟩ (Value.ref (hp.objs.size + 1) :: us) _ _ (fun _ _ _ => False) (hr.make C us []) (I2.env0.make C us []) b2 r2 hq) fun r s' hq' => ?_))
  cases r with
  | error er => exact hx pins σ _ _ er s' I2 hq'
  | ok fl =>
    cases fl with
    | ret u =>
      obtain ⟨v, H2, os2, bare2, un2, hok2, rv, ev, d, fs, ea, ed, hd1, q2⟩ := hq'
      subst ev
      obtain ⟨h2, g2, d2, t2, os'⟩ := s'
      obtain ⟨t0, G, J, kG, ge, hoe, na⟩ := mk_end0 (d2 := d2) (t2 := t2) I1 hsz kk un2 hok2 os2 bare2 ea ed hd1
      refine ⟨rv, hp.objs.size + 1, _, _, ⟨G, g2, d2, t2, os'⟩, _, .ref C, some d, rfl, J, kG, ge, hoe, ⟨rfl, rfl, fun vs hv => ?_⟩, rfl, rfl, na, rfl, bare2, raises_own T.exC T.tyC, q2⟩
      cases hv
      rfl
    | next => exact False.elim hq'
    | brk => exact False.elim hq'
    | cont => exact False.elim hq'
end
end DNX
namespace DN
open PySem PySem.Spec PyProof.Rows L2
structure InitF (P : Program) (K : PySem.W.Frag) (mg : Str → Option Value) (fI D : Addr) (params : Arguments) (body : List Stmt) (scope : Scope) (qual : Str) : Prop where
  fn : ∃ (oc : Value) (od : Option Addr) (doc pm ct : Value) (osl : Array (Option Value)) (cc cda : Addr), K.lookup fI = some ⟨oc, od, .func (PySem.W.fnX "__init__" qual params body scope [("__class__", cc)] .none .none doc pm none (.ref cda) ct), osl⟩ ∧
    PySem.W.codeIn K (.ref cda) qual = true ∧ (∃ ccl cdd vs ccs file tf, K.lookup cda = some ⟨ccl, cdd, .fields vs, ccs⟩ ∧ vs[2]? = some (.str file tf) ∧ ((P.main.file : Str) == file) = true) ∧
    (∃ cl cld csl, K.lookup cc = some ⟨cl, cld, .cell (some (.ref D)), csl⟩)
  cD : ∃ cdD, PySem.W.clsIn K D = some cdD
  tF : PySem.W.typeIn K (.ref fI) = some (.type "function")
  opq : PySem.W.nsIn K cStatics "thirdparty.any" = some none
  sup : mg "super" = none
  top : (P.main.scope.names.lookup ("super" : Str)).isSome = false
structure ExcF (K : PySem.W.Frag) (fI D C : Addr) : Prop where
  oex : OexC K C
  sub : PySem.W.mroIn K C (.ref D) = some true
  sup : PySem.W.ks_superIn K C D "__init__" = some (some (.builtin "ValueError.__init__"))
  ve : PySem.W.subIn K (.ref C) (.type "ValueError") = some true
  ini : PySem.W.findIn K (.ref C) "__init__" = some (some (.ref fI))
  noat : PySem.W.findIn K (.ref C) "what" = some none
def spIn (K : PySem.W.Frag) (fI D : Addr) : Sp := fun vs H Q _ => ∃ (a C : Addr) (v : V), vs = [.ref a, v] ∧ ExcF K fI D C ∧ H a = some (exo a C none) ∧ ∀ dx, H dx = none → dx ≠ a → Q .non (upd (upd H dx (exd dx [(("what" : Str), v)])) a (exo a C (some dx)))
section
variable {X : Cx} {pins : List (Addr × Obj)} {σ : St} {H : Hp} {s : Shared}
theorem inv_pin (I : Inv X pins σ H s) {u : Addr} {ob : Obj} (h : s.heap.get? u = some ob) (hn : H u = none) (hl : u ≠ X.env.locals) (hf : u ∉ X.fs) (hc : ∀ v, ob.data ≠ .cell v) : Inv X ((u, ob) :: pins) σ H s :=
  ⟨I.ok, I.os, I.bare, I.base, I.loc, I.cell, I.free, I.freeC, fun p hp => by
    rcases List.mem_append.mp hp with hp | hp
    · exact I.pin p (List.mem_append_left _ hp)
    · rcases List.mem_cons.mp hp with rfl | hp
      · exact ⟨h, hn, hl, hf, hc⟩
      · exact I.pin p (List.mem_append_right _ hp), I.hok, I.len⟩
theorem inv_unpin {p : Addr × Obj} (I : Inv X (p :: pins) σ H s) : Inv X pins σ H s :=
  ⟨I.ok, I.os, I.bare, I.base, I.loc, I.cell, I.free, I.freeC, fun q hq => I.pin q (by
    rcases List.mem_append.mp hq with hq | hq
    · exact List.mem_append_left _ hq
    · exact List.mem_append_right _ (List.mem_cons_of_mem _ hq)), I.hok, I.len⟩
theorem mw_init {u a C : Addr} {us : List Value} {Q : Value → Shared → Prop} (T : OexC X.K C) (I : Inv X pins σ H s) (hu : s.heap.get? u = some (PySem.W.kxs_mw "ValueError.__init__" a)) (e : H a = some (exo a C none)) (hl : us.length ≤ sizeLine) (h : ∀ s', Inv X pins σ H s' → Q .none s') :
    wpAny (model X.prog X.w) X.A (call (.ref u) us) Q X.xe s := by
  obtain ⟨nm, q, N, bs, bm, sn, sub, ab, col, dd, k0, k1, k2, k3, k5, hC, hbm⟩ := T.cls
  obtain ⟨t1, ho⟩ := exo_at I.hok e
  obtain ⟨hp, g, d, t, os⟩ := s
  refine wpAny_call (codeAny_of_tree ?_)
  show wpAny _ X.A.in1 (callAny (.ref u) ⟨us, []⟩) _ _ _
  simp only [callAny]
  refine wpAny_bind (wpAny_load hu ?_)
  simp only [PySem.W.kxs_mw, show (Value.type "method-wrapper" == Value.type "method" || Value.type "method-wrapper" == Value.type "builtin_function_or_method" || Value.type "method-wrapper" == Value.type "method-wrapper") = true by decide, if_true]
  refine PySem.W.KFB.if_so (by decide) ?_
  refine wpAny_bind (PySem.W.check_bound_init F.excBase_ValueError.toExcCallFacts (I.kIn _ _ hC) ho rfl ?_)
  refine wpAny_bind (wpAny_pure (wpAny_pure ?_))
  refine ⟨plainId_quiet F.excBase_ValueError.init.plain _, codeAny_builtin F.excBase_ValueError.initEntry ?_⟩
  refine PySem.W.exc_init_tree (cls := .ref C) (t0 := t1) (dv := none) (c2 := .none) (c3 := .none) (b4 := .bool false) ho hl fun h' k hx _ => ?_
  have J := I.write (t' := t) (x := a) (e := a) (o := exo a C none) (by rw [e]; exact True.intro) (.inl rfl) k ⟨_, hx⟩ (exo_ok hx)
  have eu : upd H a (exo a C none) = H := by
    funext b
    by_cases hb : b = a
    · rw [hb, upd_same, e]
    · rw [upd_ne hb]
  rw [eu] at J
  exact h _ J
end
theorem look1 {k y : Str} {c d : Addr} (h : List.lookup y [(k, c)] = some d) : y = k ∧ d = c := by
  cases e : (y == k) with
  | true => simp [List.lookup, e] at h; exact ⟨by simpa using e, h.symm⟩
  | false => simp [List.lookup, e] at h
section
open NdefX
variable {P : Program} {w : World} {K : PySem.W.Frag} {mg : Str → Option Value} {base : Heap} {fI D : Addr} {params : Arguments} {body : List Stmt} {scope : Scope} {qual : Str}
theorem init_ok (F : InitF P K mg fI D params body scope qual) (S : NScope ["self", "what", "__class__"] ["self", "what"] ["__class__"] scope) {ar : Arg} (hp : (params.posonlyargs ++ params.args).head? = some ar) (har : ar.arg = ("self" : Str))
    (hb : ∀ (cl : List (Str × Addr)) (doc pm ct cdv : Value) (us : List Value), us.length = 2 → bindArgs (PySem.W.fnX "__init__" qual params body scope cl .none .none doc pm none cdv ct) ⟨us, []⟩ = pure ((["self", "what"] : List Str).zip us))
    (hks : scope.names.lookup ("super" : Str) = some .globalImplicit)
    {p0 p1 p2 p3 p4 p5 p6 p7 p8 p9 : Pos}
    (hcall : ∀ (f L cc cda : Addr), ∃ pl, eval (.Call (.Attribute (.Call (.Name "super" p0) [] [] p1) "__init__" p2) [.Name "what" p3] [] p4) (PySem.W.envX qual scope L f (.ref cda) [("__class__", cc)]) = (do
      let ov ← attributeBase (.Call (.Name "super" p0) [] [] p1) "__init__" (PySem.W.envX qual scope L f (.ref cda) [("__class__", cc)]) (eval (.Call (.Name "super" p0) [] [] p1) (PySem.W.envX qual scope L f (.ref cda) [("__class__", cc)]))
      standAt p2.atName
      let (fx, first) ← holding [ov] (getMethod ov "__init__" pl)
      callWith p4 fx first (backTo p4 (starEach [.Name "what" p3] (PySem.W.envX qual scope L f (.ref cda) [("__class__", cc)]))) []))
    (hsw : ∀ (f L cc cda : Addr), swapsWith (.Call (.Attribute (.Call (.Name "super" p0) [] [] p1) "__init__" p2) [.Name "what" p3] [] p4) none p5.line (PySem.W.envX qual scope L f (.ref cda) [("__class__", cc)]) = pure false)
    (hsw2 : ∀ (f L cc cda : Addr), swapsWith (.Name "what" p8) (some (.Attribute (.Name "self" p6) "what" p7)) p9.line (PySem.W.envX qual scope L f (.ref cda) [("__class__", cc)]) = pure false)
    (hbody : body = [.Expr (.Call (.Attribute (.Call (.Name "super" p0) [] [] p1) "__init__" p2) [.Name "what" p3] [] p4) p5, .Assign [.Attribute (.Name "self" p6) "what" p7] (.Name "what" p8) p9]) :
    ∃ fd, FnOk P w K mg base (L2N.CX P w) 1 fI fd ["self", "what"] (spIn K fI D) ∧ Binds K fd ["self", "what"] [] := by
  obtain ⟨oc, od, doc, pm, ct, osl, cc, cda, lk, hcd, ⟨ccl, cdd, vs0, ccs, file, tf, lc, hvs, hfile⟩, cl, cld, csl, lcc⟩ := F.fn
  obtain ⟨cdD, hD⟩ := F.cD
  refine ⟨_, ⟨fun vs H Q E ⟨a, C, v, e, _⟩ => by rw [e]; rfl, fun A outer s H args us vs Q E hr e0 hbd r hsp => ?_⟩, Binds.all fun us hl => hb [("__class__", cc)] doc pm ct (.ref cda) us hl⟩
  obtain ⟨a, C, v, rfl, EF, ea, q⟩ := hsp
  let NFd : NF := ⟨"__init__", qual, params, body, scope, [("__class__", cc)], cda⟩
  have KX : K.In s.heap := e0.mod.kin.keeps fun b o e => (e0.bs b o e).1
  have lim : s.heap.NoLimit := e0.mod.nolimit.keeps fun b o e => (e0.bs b o e).1
  obtain ⟨u1, u2, rfl, r1, r2⟩ : ∃ u1 u2, us = [u1, u2] ∧ RelV (.ref a) u1 ∧ RelV v u2 := by
    cases r with
    | cons h1 t => cases t with
      | cons h2 t => cases t; exact ⟨_, _, rfl, h1, h2⟩
  refine codeAny_call_function hr.depth (KX _ _ lk) rfl S.co S.gen rfl (PySem.W.codeRec_of KX hcd) (hbd _ _ _ _ ?_)
  refine wpAny_newFunctionEnv S.nocell (fun ⟨n, _⟩ hy => S.par n (List.of_mem_zip hy).1) (fun h₁ hns hsb => ⟨lim.fresh _ hsb, ?_⟩) S.kind
  show codeAny _ _ (.func body (envF NFd fI s.heap.objs.size)) _ _
  refine ks_codeAny_funcAt ?_
  have kp : ∀ b o, s.heap.get? b = some o → h₁.get? b = some o := fun b o e => hsb.extBut b o (Nat.ne_of_lt (Heap.lt_size e)) (Heap.get?_push_of_some _ e)
  have Hcc : H cc = none := (e0.bs cc _ (e0.mod.kin _ _ lcc)).2
  have CA : CellsAt NFd.cl ["__class__"] [some (.ref D)] s.heap H := ⟨rfl, fun y c e => by
    obtain ⟨_, rfl⟩ := look1 (show List.lookup y [(("__class__" : Str), cc)] = some c from e)
    exact ⟨Hcc, _, ⟨_, KX _ _ lcc, rfl⟩⟩, fun x y c e1 e2 => by
    obtain ⟨h1, _⟩ := look1 (show List.lookup x [(("__class__" : Str), cc)] = some c from e1)
    obtain ⟨h2, _⟩ := look1 (show List.lookup y [(("__class__" : Str), cc)] = some c from e2)
    rw [h1, h2], fun i y e => by
    cases i with
    | zero => simp at e; subst e; exact ⟨cc, rfl, fun v hv => by cases hv; exact ⟨.ref D, rfl, _, KX _ _ lcc, rfl⟩⟩
    | succ i => simp at e⟩
  have I : Inv (ncx (L2N.CX P w) P w K mg base ["self", "what", "__class__"] NFd fI A outer s H E) [] (startF ["self", "what", "__class__"] [.ref a, v] [some (.ref D)]) H { s with heap := h₁, toks := s.toks + ((["self", "what"] : List Str).zip [u1, u2]).length } :=
    inv_startN S hr.hd e0 rfl (.cons r1 (.cons r2 .nil)) CA hns kp
  cases r1
  subst hbody
  have kI : ∀ b o, K.lookup b = some o → h₁.get? b = some o := fun b o e => kp _ _ (KX _ _ e)
  obtain ⟨oD, hD1, hD2⟩ : ∃ oD, h₁.get? D = some oD ∧ oD.data = .cls cdD := by
    unfold PySem.W.clsIn at hD
    split at hD
    · rename_i c d cd' sl ho
      cases hD
      exact ⟨_, kI _ _ ho, rfl⟩
    · cases hD
  obtain ⟨t0, hoa⟩ := exo_at I.hok ea
  have hint : interactive (envF NFd fI s.heap.objs.size) = false := by
    unfold interactive
    simp [S.kind, NFd]
  obtain ⟨pl, hcall⟩ := hcall fI s.heap.objs.size cc cda
  refine ks_wpAt_execs_cons (ks_wpAt_Expr_any (ks_wpAt_MethodCall ?_ hcall) hint (hsw _ _ _ _))
  refine ks_wpAt_super_base (env := envF NFd fI s.heap.objs.size) hks (S.frk _ List.mem_cons_self) (by decide) rfl (kI _ _ lk) rfl hp rfl (kI _ _ lc) rfl hvs hfile F.top ?_
  obtain ⟨mb, hmb1, hmb2⟩ := e0.mod.blt
  have bk : ∀ b o, base.get? b = some o → h₁.get? b = some o := fun b o e => kp b o (e0.bs b o e).1
  refine PySem.W.ks_loadName_global S.kind hks (Calls.loadGlobal_builtin (env := envF NFd fI s.heap.objs.size) (e0.mod.glob.keeps bk) F.sup (hmb1.keeps bk) ((hmb2 _ (by decide)).trans (show bootBuiltins "super" = some (.type "super") by decide +kernel)) ⟨rfl, ?_⟩)
  refine wpAny_loadName_free S.kind (S.frk _ List.mem_cons_self) rfl ⟨_, kI _ _ lcc, rfl⟩ ?_
  rw [har]
  refine wpAny_loadName_local (v := .ref a) S.kind (S.par _ List.mem_cons_self) hns (by rfl) ?_
  refine ks_wpAny_isType_cls hD1 hD2 ⟨rfl, ?_⟩
  refine ks_wpAny_call_super hD1 hD2 hoa rfl (fun c e => nomatch e) (PySem.W.looks_mroIn I.kIn EF.sub) (fun h2 e2 k2 => ?_)
  have I2 := I.kept (t' := s.toks + ((["self", "what"] : List Str).zip [Value.ref a, u2]).length) (h' := h2) k2
  obtain ⟨cdC, hC1, hC2⟩ : ∃ cd, PySem.W.clsIn K C = some cd ∧ PySem.W.alongIn K "__init__" ((cd.mro.dropWhile (· != .ref D)).drop 1) = some (some (.builtin "ValueError.__init__")) := by
    have z := EF.sup
    unfold PySem.W.ks_superIn at z
    exact Option.bind_eq_some_iff.mp z
  obtain ⟨t2, hoa2⟩ := exo_at I2.hok ea
  have hxC : a ≠ C := fun z => by
    subst z
    have z2 : K.In h2 := I2.kIn
    unfold PySem.W.clsIn at hC1
    split at hC1
    · rename_i c d cd' sl ho
      rw [z2 _ _ ho] at hoa2
      cases hoa2
    · cases hC1
  refine PySem.W.kxs_getMethod PySem.W.kxs_ValueError e2 (PySem.W.looks_opaque I2.kIn F.opq) (l₀ := cdC.mro) (fun A Q E s k q => wpAny_bind ((PySem.W.looks_clsIn I2.kIn hC1) A _ E s k (wpAny_pure q))) rfl I2.kIn hC2 ?_ hxC (by decide) ?_
  · have IA : PySem.W.InstAt h2 a ({ cls := .ref C, dict := none, data := .fields #[.ref t2, .none, .none, .none, .bool false, .none] } : Obj) C none := ⟨hoa2, rfl, rfl, trivial⟩
    exact IA.type.andThen (PySem.W.looks_subIn I2.kIn EF.ve)
  have k3 : ∀ b o, h2.get? b = some o → (h2.push (PySem.W.kxs_mw "ValueError.__init__" a)).get? b = some o := fun b o e => Heap.get?_push_of_some _ e
  have I3 := I2.kept (t' := s.toks + ((["self", "what"] : List Str).zip [Value.ref a, u2]).length + 1) (h' := h2.push (PySem.W.kxs_mw "ValueError.__init__" a)) k3
  have hu : (h2.push (PySem.W.kxs_mw "ValueError.__init__" a)).get? h2.objs.size = some (PySem.W.kxs_mw "ValueError.__init__" a) := Heap.get?_push_size _ rfl
  have I4 := inv_pin I3 hu (I2.hok.fresh (Nat.le_refl _)) (Nat.ne_of_gt I2.lt) (I2.nofs (Nat.le_refl _)) (fun v q => nomatch q)
  have he : starEach [.Name "what" p3] (envF NFd fI s.heap.objs.size) = (false, eval (.Name "what" p3) (envF NFd fI s.heap.objs.size)) :: starEach [] (envF NFd fI s.heap.objs.size) := rfl
  let X := ncx (L2N.CX P w) P w K mg base ["self", "what", "__class__"] NFd fI A outer s H E
  have pW : ∀ p, PE X (.Name "what" p) (tVar 1) := fun p => pe_var rfl (.inl (S.par _ (List.mem_cons_of_mem _ List.mem_cons_self))) (by decide) (by decide)
  have pS : PE X (.Name "self" p6) (tVar 0) := pe_var rfl (.inl (S.par _ List.mem_cons_self)) (by decide) (by decide)
  have pA : PA X [.Name "what" p3] (L2.tCons (tVar 1) L2.tNil) := pa_cons (pW p3) pa_nil he
  show wpAny _ _ (callWith p4 (.ref h2.objs.size) [] (backTo p4 (starEach [.Name "what" p3] (envF NFd fI s.heap.objs.size))) []) _ _ _
  rw [he]
  refine PySem.W.kxs_callWith (i := "ValueError.__init__") (x := a) rfl (Calls.evalArgs_plain ?_)
  have run := pA.run p4 _ _ (startF ["self", "what", "__class__"] [.ref a, v] [some (.ref D)]) H (fun vs H' => vs = [v] ∧ H' = H) I4 ⟨v, rfl, rfl, rfl⟩
  rw [show starEach [.Name "what" p3] X.env = (false, eval (.Name "what" p3) (envF NFd fI s.heap.objs.size)) :: starEach [] (envF NFd fI s.heap.objs.size) from he] at run
  refine wpAny_mono run (fun us s5 hh => ?_) fun _ _ x => x
  obtain ⟨vs, H5, I5, r5, e5, e6⟩ := hh
  subst e5 e6
  have hu5 : s5.heap.get? h2.objs.size = some (PySem.W.kxs_mw "ValueError.__init__" a) := (I5.pin (h2.objs.size, _) (List.mem_append_right _ List.mem_cons_self)).1
  refine ⟨hu5, ?_⟩
  refine mw_init EF.oex I5 hu5 ea (by show us.length ≤ sizeLine; rw [← r5.length]; show 1 ≤ sizeLine; decide) fun s6 I6 => ?_
  refine ks_wpAt_execs_cons (wpAt_of_wpAny ?_)
  have pO : PS X (.Assign [.Attribute (.Name "self" p6) "what" p7] (.Name "what" p8) p9) (tOst K "what" (tVar 0) (tVar 1)) := ps_ost pS (pW p8) (hsw2 _ _ _ _)
  refine wpAny_mono (pO.run [] s6 _ H5 { nx := fun _ H' => Q .non H', rt := fun _ _ => False } (inv_unpin I6) ⟨v, rfl, .ref a, rfl, a, C, rfl, EF.oex, EF.noat, .inl ⟨ea, q⟩⟩) (fun fl s7 hs => ?_) fun _ _ x => x
  cases fl with
  | next =>
    obtain ⟨σ', H', J, qq⟩ := hs
    refine wpAt_of_wpAny (wpAny_execs_nil ?_)
    exact ⟨.non, H', J.os, J.bare, J.base, J.hok, rfl, qq⟩
  | ret u =>
    obtain ⟨_, _, _, _, _, z⟩ := hs
    exact False.elim z
  | brk =>
    obtain ⟨_, _, _, z⟩ := hs
    exact False.elim z
  | cont =>
    obtain ⟨_, _, _, z⟩ := hs
    exact False.elim z
end
def sRaise (c : Str) (f : DE) : DS := fun σ st => (f σ st).bind fun v st => .exc c v st
def ExcCal (P : Program) (w : World) (K : PySem.W.Frag) (mg : Str → Option Value) (base : Heap) (x : Str) : Prop :=
  ∃ C fI D fd, mg x = some (.ref C) ∧ ExcF K fI D C ∧ PySem.W.typeIn K (.ref fI) = some (.type "function") ∧ FnOk P w K mg base (L2N.CX P w) 1 fI fd ["self", "what"] (spIn K fI D) ∧ Binds K fd ["self", "what"] []
section
variable {X : Cx} {T : TR} {E : XK} {x : Str} {e : Expr} {f : DE} {p pos pos' : Pos} {σ : St} {H : Hp}
theorem ta_one {G : DG} {Q : List V → Hp → Prop} {ρ : List Addr} {aσ : AE} {st : Store} {β : Type} {k : PV → Store → Res β} {K : β → Store → List Addr → Hp → Prop} (hE : RlE G ρ H aσ σ) (hS : RlS G ρ H st) (h : Pst G E ρ H K ((f aσ st).bind k))
    (q : ∀ ρ1 H1 q v st1, Ext G.T ρ H ρ1 H1 → RlS G ρ1 H1 st1 → Rl G ρ1 H1 q v → Pst G E ρ1 H1 K (k q st1) → Q [v] H1) : Ta G E (dAc f dA0) σ H Q := by
  refine ⟨ρ, aσ, st, hE, hS, ?_⟩
  unfold dAc dA0
  cases e : f aσ st with
  | ok y st1 =>
    rw [e] at h
    intro ρ1 H1 x1 s1 vs rs
    obtain ⟨v, rfl, r⟩ := all1 rs
    exact q ρ1 H1 y v st1 x1 s1 r (h.base x1)
  | exc c w st1 => rw [e] at h; exact h
  | fail => rw [e] at h; exact h.elim
theorem es_raise (C : ExcCal X.prog X.w X.K X.mg X.base x) (hrG : RoomG 2 X.A) (hc : X.calm = true) (tk : L2N.Takes X fun cls d _ H => E cls d H) (hg : Gl X x) (ha : EV X T E e f)
    (hdb : (x == ("__debug__" : Str)) = false := by decide) (he : starEach [e] X.env = (false, eval e X.env) :: starEach [] X.env := by rfl) (hpl : (backTo pos (starEach [] X.env)).any (·.1) = false := by rfl) :
    ES X T E (.Raise (some (.Call (.Name x p) [e] [] pos)) none pos') (sRaise x f) := by
  obtain ⟨Ca, fI, D, fd, hm, EF, tI, F1, hb⟩ := C
  refine ps_imp (L2N.ps_raise hc tk (DNX.pmk_oexN (k := 1) EF.oex EF.ini tI F1 hrG.room hb lets_never hg hm (ea_cons ha ea_nil he) hdb he hpl)) fun Dd σ H q => ?_
  obtain ⟨ρ, aσ, st, hE, hS, h⟩ := q
  refine ta_one hE hS h fun ρ1 H1 q v st1 x1 s1 r h => ⟨by show 1 ≤ 1000; decide, fun a hna => ?_⟩
  refine ⟨a, Ca, v, rfl, EF, upd_same, fun dx hdx hne => ⟨rfl, dx, [(("what" : Str), v)], upd_same, by rw [upd_ne hne, upd_same], ?_, ?_⟩⟩
  · rwa [upd_ne hne] at hdx
  · have hdx' : H1 dx = none := by rwa [upd_ne hne] at hdx
    have e1 : upd (del (upd (upd (upd H1 a (exo a Ca none)) dx (exd dx [(("what" : Str), v)])) a (exo a Ca (some dx))) a) dx (.xd [(("what" : Str), v)]) = upd H1 dx (Xd v) := by
      funext b
      by_cases hb : b = dx
      · rw [hb, upd_same, upd_same]
      · rw [upd_ne hb, upd_ne hb]
        by_cases hba : b = a
        · rw [hba, del_same, hna]
        · rw [del_ne hba, upd_ne hba, upd_ne hb, upd_ne hba]
    rw [e1]
    exact h ρ1 (upd H1 dx (Xd v)) Ca dx v (ext_new hdx') (s1.new hdx') hm upd_same (s1.out hdx') (r.ext (ext_new hdx'))
end
end DN
namespace DN
open PySem PySem.Spec PyProof.Rows L2
abbrev Hdl := Value × Option Nat × (Addr → Value → Option Addr → TS)
def endsO (D : Ends) : Option Nat → Ends
  | none => D
  | some i => { nx := fun σ H => D.nx (σ.set i none) H, rt := D.rt, bk := fun σ H => D.bk (σ.set i none) H, ct := fun σ H => D.ct (σ.set i none) H }
def setO (σ : St) (o : Option Nat) (a : Addr) : St := match o with
  | none => σ
  | some i => σ.set i (some (.ref a))
def wAll (K : PySem.W.Frag) (Wout : WX) (D : Ends) : List Hdl → WX
  | [] => Wout
  | (c, o, ts) :: r => fun cls d σ H => ∃ b, PySem.W.exmOne K cls c = some b ∧ (b = true → ∀ a, H a = none → ts a cls d (endsO D o) (setO σ o a) H) ∧ (b = false → wAll K Wout D r cls d σ H)
inductive HdA (X : Cx) : List ExceptHandler → List Hdl → Prop
  | nil : HdA X [] []
  | plain {x : Str} {c : Value} {ts : Addr → Value → Option Addr → TS} {b₀ : Stmt} {suite : List Stmt} {np pos : Pos} {hds : List ExceptHandler} {l : List Hdl} (hc : Names X x c)
      (hsu : ∀ (a : Addr) (oe : Obj) (cls : Value) (d : Option Addr) (pn : List (Addr × Obj)), L2N.Zn cls d oe → (∃ vs, oe.data = .fields vs) → PSs (X.suite a ((a, oe) :: pn)) (b₀ :: suite) (ts a cls d)) (r : HdA X hds l) :
      HdA X (.ExceptHandler (some (.Name x np)) none (b₀ :: suite) pos :: hds) ((c, none, ts) :: l)
  | named {x n : Str} {i : Nat} {c : Value} {ts : Addr → Value → Option Addr → TS} {b₀ : Stmt} {suite : List Stmt} {np pos : Pos} {hds : List ExceptHandler} {l : List Hdl} (hi : X.N[i]? = some n) (hln : X.env.kindOf n = some .local) (hc : Names X x c)
      (hsu : ∀ (a : Addr) (oe : Obj) (cls : Value) (d : Option Addr) (pn : List (Addr × Obj)), L2N.Zn cls d oe → (∃ vs, oe.data = .fields vs) → PSs (X.suite a ((a, oe) :: pn)) (b₀ :: suite) (ts a cls d)) (r : HdA X hds l) :
      HdA X (.ExceptHandler (some (.Name x np)) (some n) (b₀ :: suite) pos :: hds) ((c, some i, ts) :: l)
section
variable {X : Cx} {body : List Stmt} {h₀ : ExceptHandler} {hds : List ExceptHandler} {l : List Hdl} {pos : Pos} {tb : WX → TS} {Wout : WX}
theorem try_on {pins : List (Addr × Obj)} {D : Ends} {s' : Shared} {a : Addr} {B h3 : Heap} {sI : Shared} {σ' : St} {H' : Hp} {cls : Value} {d : Option Addr} (hs : X.stack = X.env :: X.outer) (hf : X.env.frame = some X.env.locals) (tk : L2N.Takes X Wout) (J : Inv X pins σ' H' sI)
    (nb : ∀ b o, sI.heap.get? b = some o → b ∉ frs X.stack → B.get? b = some o) (up : sI.heap.UpToSlots h3) (fl3 : HandSPX.FlyingZ B (X.env :: X.outer) a (L2N.Zn cls d) h3) (na : H' a = none) (os : s'.os = sI.os) (ag : AllBare s'.gens) (w : Wout cls d σ' H') :
    wpAny (model X.prog X.w) X.A (handleBy (.ref a) X.env []) (SP X pins D) X.xe { s' with heap := h3 } := by
  refine wpAny_handleBy_nil ?_
  obtain ⟨_, _, _, oe, vs, T, _, _, he, _, hd, h1, _⟩ := id fl3
  unfold PySem.passOn
  refine wpAny_bind (wpAny_field he hd h1 ?_)
  rw [if_neg (show ¬ (Value.ref T == Value.none) = true by simp)]
  have fin : wpAny (model X.prog X.w) X.A (setFlight (.ref a) X.env.frame) (fun _ s4 => wpAny (model X.prog X.w) X.A (throw (.ref a) : Sem Flow) (SP X pins D) X.xe s4) X.xe { s' with heap := h3 } := by
    rw [hf]
    exact HandSPX.setFlight_upZ fl3 fun h4 hh4 up4 => wpAny_throw (tk _ _ ⟨a, B, sI, pins, σ', H', cls, d, rfl, J, nb, up.trans up4, .inr (.inr (by rw [hs]; exact hh4)), na, os, ag, w⟩)
  first
    | exact wpAny_bind (wpAny_pure (wpAny_bind fin))
    | exact wpAny_bind fin
theorem ps_try_all (hs : X.stack = X.env :: X.outer) (hf : X.env.frame = some X.env.locals) (hN : X.N.Nodup) (tk : L2N.Takes X Wout)
    (hb : ∀ (W : WX) (pn : List (Addr × Obj)) (xe : Value → Shared → Prop), L2N.Takes (X.tr pn xe) W → PassesOwn (model X.prog X.w) X.A X.env xe → PSs (X.tr pn xe) body (tb W))
    (hh : HdA X (h₀ :: hds) l) : PS X (.Try body (h₀ :: hds) [] [] pos) (fun D σ H => tb (wAll X.K Wout D l) D σ H) := by
  refine ⟨fun pins s σ H D I h => ?_⟩
  have ok := I.ok
  have frE : X.A.frames = some (X.env :: X.outer) := by rw [ok.frames, hs]
  refine wpAny_Try_except ?_
  refine wpAny_mono ((hb (wAll X.K Wout D l) (X.pn ++ pins) (fun e s₁ => wpAny (model X.prog X.w) X.A (noteFrame e X.env) (fun _ s₂ => wpAny (model X.prog X.w) X.A (setFlight e none) (fun _ s₃ => wpAny (model X.prog X.w) X.A (handleBy e X.env (h₀ :: hds)) (SP X pins D) X.xe s₃) X.xe s₂) X.xe s₁)
    (fun u s' xx => ?_) PassesOwn.looking).run [] s σ H D (I.toTry _) h) (fun f s1 hsp => ?_) (fun _ _ he => he)
  · obtain ⟨a, B, sI, pins', σ', H', cls, d, rfl, J', nb, up, sky, na, os, ag, w⟩ := xx
    have J : Inv X pins σ' H' sI := J'.ofTry ok
    have skyE : Sky B (X.env :: X.outer) a (L2N.Zn cls d) X.env.locals s'.heap := by rw [← hs]; exact sky
    show wpAny (model X.prog X.w) X.A (noteFrame (.ref a) X.env) _ _ _
    refine L2N.Sky.land L2N.Zn.steady frE hf skyE fun h3 fl3 up3 => ?_
    have J3 : Inv X pins σ' H' { s' with heap := h3 } := J.landed nb fl3.1 (up.trans up3) os ag
    obtain ⟨oe3, vs3, he3, hz3, hd3⟩ := fl3.there
    have apart : a ∉ frs (X.env :: X.outer) := fun hm => by
      obtain ⟨_, o', e', hnf⟩ := fl3.2.2.1.mem hm
      rw [he3] at e'
      cases e'
      exact hnf _ hd3
    have nL : a ≠ X.env.locals := fun z => apart (List.mem_filterMap.mpr ⟨X.env, List.mem_cons_self, by rw [hf, z]⟩)
    have nF : a ∉ X.fs := fun hm => by
      obtain ⟨e, he, q⟩ := List.mem_filterMap.mp hm
      exact apart (List.mem_filterMap.mpr ⟨e, List.mem_cons_of_mem _ he, q⟩)
    have S3 := J3.suite he3 hd3 na nL nF
    have test : ∀ {x : Str} {np : Pos} {c : Value} {Q E : Value → Shared → Prop}, Names X x c → Q c { s' with heap := h3 } → wpAny (model X.prog X.w) (X.A.mark (some (.ref a))) (eval (.Name x np) X.env) Q E { s' with heap := h3 } := fun {x np c Q E} hc q => by
      obtain ⟨hg, hdbg, hm | ⟨hm, hv, hnn⟩⟩ := hc
      · exact ld_glob (X := X.suite a ((a, oe3) :: (X.pn ++ pins))) S3 hg hm q hdbg
      · exact ld_blt (X := X.suite a ((a, oe3) :: (X.pn ++ pins))) S3 hg hm hv q hnn hdbg
    have LT : PySem.W.Looks (model X.prog X.w) h3 (typeOf (.ref a)) cls := fun A Q E s k q => wpAny_typeOf_ref (k _ _ he3) (by rw [hz3.1]; exact q)
    have go : ∀ {hs2 : List ExceptHandler} {l2 : List Hdl}, HdA X hs2 l2 → wAll X.K Wout D l2 cls d σ' H' → wpAny (model X.prog X.w) X.A (handleBy (.ref a) X.env hs2) (SP X pins D) X.xe { s' with heap := h3 } := by
      intro hs2 l2 hk
      induction hk with
      | nil => exact fun w => try_on hs hf tk J nb (up.trans up3) fl3 na os ag w
      | @plain x c ts b₀ suite np pos' hds2 l2 hc hsu r ih =>
        intro w
        obtain ⟨b, hb1, hyes, hno⟩ := w
        refine wpAny_handleBy_cons (codeAny_handlers_test (test hc ((PySem.W.exm_one (M := model X.prog X.w) J3.kIn LT hb1).here ?_))) (by intro q; cases q)
        cases b with
        | true =>
          refine codeAny_handlers_suite (HandSPX.lands_againZ fl3 fun h4 fl4 up4 => ?_)
          have J4 : Inv X pins σ' H' { s' with heap := h4 } := J.landed nb fl4.1 ((up.trans up3).trans up4) os ag
          obtain ⟨oe4, vs4, he4, hz4, hd4⟩ := fl4.there
          refine wpAny_mono ((hsu a oe4 cls d (X.pn ++ pins) hz4 ⟨_, hd4⟩).run [] _ _ H' _ (J4.suite he4 hd4 na nL nF) (hyes rfl a na)) (fun f s6 hsp => ?_) (fun _ _ z => z.elim)
          cases f with
          | next => obtain ⟨σ6, H6, S6, q6⟩ := hsp; exact ⟨_, _, S6.unsuite ok, q6⟩
          | brk => obtain ⟨σ6, H6, S6, q6⟩ := hsp; exact ⟨_, _, S6.unsuite ok, q6⟩
          | cont => obtain ⟨σ6, H6, S6, q6⟩ := hsp; exact ⟨_, _, S6.unsuite ok, q6⟩
          | ret u => obtain ⟨v6, σ6, H6, S6, r6, q6⟩ := hsp; exact ⟨_, _, _, S6.unsuite ok, r6, q6⟩
        | false =>
          show wpAny _ X.A (handleBy (.ref a) X.env hds2) _ _ _
          exact ih (hno rfl)
      | @named x n i c ts b₀ suite np pos' hds2 l2 hi hln hc hsu r ih =>
        intro w
        obtain ⟨b, hb1, hyes, hno⟩ := w
        refine wpAny_handleBy_cons (codeAny_handlers_test (test hc ((PySem.W.exm_one (M := model X.prog X.w) J3.kIn LT hb1).here ?_))) (by intro q; cases q)
        cases b with
        | true =>
          refine codeAny_handlers_suite_as (HandSPX.lands_againZ fl3 fun h4 fl4 up4 => ?_)
          have J4 : Inv X pins σ' H' { s' with heap := h4 } := J.landed nb fl4.1 ((up.trans up3).trans up4) os ag
          obtain ⟨oe4, vs4, he4, hz4, hd4⟩ := fl4.there
          refine store_ok (X := X.suite a ((a, oe4) :: (X.pn ++ pins))) (v := .ref a) (J4.suite he4 hd4 na nL nF) hN hi (.inl hln) rfl (fun s5 S5 => ?_) (.inr hln)
          refine wpAny_mono ((hsu a oe4 cls d (X.pn ++ pins) hz4 ⟨_, hd4⟩).run [] s5 _ H' _ S5 (hyes rfl a na)) (fun f s6 hsp => ?_) (fun _ _ z => z.elim)
          have gone : ∀ {σ6 : St} {H6 : Hp} {Q : Shared → Prop}, Inv (X.suite a ((a, oe4) :: (X.pn ++ pins))) [] σ6 H6 s6 → (∀ s7, Inv X pins (σ6.set i none) H6 s7 → Q s7) → wpAny (model X.prog X.w) X.A (do bindName X.env n .none; unbindBehindTheSuite X.env n pos') (fun _ s7 => Q s7) X.xe s6 :=
            fun {σ6 H6 Q} S6 hq => gone_ok (S6.unsuite ok) hN hi hln hq
          cases f with
          | next => obtain ⟨σ6, H6, S6, q6⟩ := hsp; exact gone S6 fun s7 J7 => ⟨_, _, J7, q6⟩
          | brk => obtain ⟨σ6, H6, S6, q6⟩ := hsp; exact gone S6 fun s7 J7 => ⟨_, _, J7, q6⟩
          | cont => obtain ⟨σ6, H6, S6, q6⟩ := hsp; exact gone S6 fun s7 J7 => ⟨_, _, J7, q6⟩
          | ret u => obtain ⟨v6, σ6, H6, S6, r6, q6⟩ := hsp; exact gone S6 fun s7 J7 => ⟨_, _, _, J7, r6, q6⟩
        | false =>
          show wpAny _ X.A (handleBy (.ref a) X.env hds2) _ _ _
          exact ih (hno rfl)
    exact go hh w
  · cases f with
    | next => obtain ⟨σ', H', J', q⟩ := hsp; exact wpAny_execs_nil ⟨σ', H', J'.ofTry ok, q⟩
    | brk => obtain ⟨σ', H', J', q⟩ := hsp; exact ⟨σ', H', J'.ofTry ok, q⟩
    | cont => obtain ⟨σ', H', J', q⟩ := hsp; exact ⟨σ', H', J'.ofTry ok, q⟩
    | ret u => obtain ⟨v, σ', H', J', r, q⟩ := hsp; exact ⟨v, σ', H', J'.ofTry ok, r, q⟩
end
end DN
namespace DN
open PySem PySem.Spec PyProof.Rows L2
structure ErrC (K : PySem.W.Frag) (C : Addr) : Prop where
  cl : (PySem.W.clsIn K C).isSome = true
  ga : PySem.W.findIn K (.ref C) "__getattribute__" = some (some (.builtin "BaseException.__getattribute__"))
  gg : PySem.W.findIn K (.ref C) "__getattr__" = some none
  ex : PySem.W.subIn K (.ref C) (.type "BaseException") = some true
  hd : PySem.W.hasDictIn K C = true
  wh : PySem.W.findIn K (.ref C) "what" = some none
  ca : PySem.W.findIn K (.ref C) "__class__" = some (some (.builtin "object.__class__"))
  cg : PySem.W.specialIn K (.builtin "object.__class__") "__get__" = some (some (.builtin "getset_descriptor.__get__"))
  ct : PySem.W.takesIn K (.builtin "object.__class__") = some true
  ob : PySem.W.mroIn K C (.type "object") = some true
structure ErrX (Z : Cx) (T : TR) (a : Addr) (c : Str) (d C : Addr) (oe : Obj) : Prop where
  t : T.err = some (a, c, d)
  m : Z.mg c = some (.ref C)
  z : L2N.Zn (.ref C) (some d) oe
  f : ∃ vs, oe.data = .fields vs
  k : ErrC Z.K C
  p : (a, oe) ∈ Z.pn
  h : L2H.Hot1 Z.A (a, oe)
def dWhat (f : DE) : DE := fun σ st => (f σ st).bind fun p st => match p with
  | .err _ w => .ok w st
  | _ => .fail
section
variable {Z : Cx} {T : TR} {E : XK} {a d C : Addr} {c : Str} {oe : Obj} {e : Expr} {f : DE} {pos : Pos}
theorem ev_what (R : ErrX Z T a c d C oe) (hf : EV Z T E e f) (hb : attributeBase e "what" Z.env (eval e Z.env) = eval e Z.env := by rfl) : EV Z T E (.Attribute e "what" pos) (dWhat f) := by
  refine ⟨fun pins s σ H Q I h => ?_⟩
  obtain ⟨ρ, aσ, st, hE, hS, h⟩ := h
  have q : Tv (gOf Z T) E f σ H fun v H1 => ∃ w, v = .ref a ∧ Rd H1 d (.xd [(("what" : Str), w)]) ∧ Q w H1 := by
    refine tv_bind hE hS h fun ρ1 H1 x v st1 e1 s1 _ r h1 => ?_
    cases r with
    | err h2 h3 h4 h5 =>
      rw [R.t] at h2
      cases h2
      exact ⟨_, rfl, h3, h1.ret s1 _ h5⟩
    | _ => exact False.elim h1
  refine attr_of hb (thn (hf.run pins s σ H _ I q) fun u s1 hh => ?_)
  obtain ⟨x, H1, I1, rx, w, ex, ed, q⟩ := hh
  subst ex
  obtain rfl : u = Value.ref a := rx
  obtain ⟨ha, _⟩ := I1.pin (a, oe) (List.mem_append_left _ R.p)
  obtain ⟨vs, hd⟩ := R.f
  have hx : ObjOk Z.prog Z.w H1 s1.heap d (.xd [(("what" : Str), w)]) := by
    rcases ed with ed | ⟨o, ed⟩
    · exact I1.hok d _ ed
    · exact (I1.hok d _ ed).2
  obtain ⟨mA, hns, hr⟩ := hx
  obtain ⟨od, ho, hl⟩ := lookIn_ns hns
  have l : List.lookup ("what" : Str) [(("what" : Str), w)] = some w := by simp [List.lookup]
  obtain ⟨u, hu, ru⟩ := RelO.some_of (v := w) (o := mA "what") (by rw [← l]; exact hr "what")
  have J : PySem.W.InstAt s1.heap a oe C (some od) := ⟨ha, R.z.1, by unfold PySem.W.notCls; rw [hd] <;> rfl, by rw [R.z.2.1]; exact ho⟩
  exact HandSPX.exc_get I1.kIn J R.k.ga R.k.gg R.k.ex (PySem.W.findObj_own R.k.hd R.k.wh rfl (by rw [hl, hu])) (handed_of ru) ⟨w, H1, I1.tok _, ru, q⟩
structure ClsT (K : PySem.W.Frag) (mg : Str → Option Value) (tbl : Str → Str → Option Bool) : Prop where
  own : ∀ c x b C D, tbl c x = some b → mg c = some (.ref C) → mg x = some (.ref D) → PySem.W.exmOne K (.ref C) (.ref D) = some b ∧ PySem.W.kitOne K (.ref C) (.ref D) = some b
  blt : ∀ c b C, tbl c ("ValueError" : Str) = some b → mg c = some (.ref C) → mg ("ValueError" : Str) = none → PySem.W.exmOne K (.ref C) (.type "ValueError") = some b ∧ PySem.W.kitOne K (.ref C) (.type "ValueError") = some b
  err : ∀ c x b C, tbl c x = some b → mg c = some (.ref C) → ErrC K C
def qIsE (tbl : Str → Str → Option Bool) (xs : List PV) : M PV := fun st => match xs with
  | [.err c _, .con x] => (match tbl c x with
    | some b => .ok (.bl b) st
    | none => .fail)
  | [.err c _, .ty "ValueError"] => (match tbl c ("ValueError" : Str) with
    | some b => .ok (.bl b) st
    | none => .fail)
  | _ => .fail
def rIsX (K : PySem.W.Frag) (C a d : Addr) : List V → Hp → VK → Prop := fun xs H Q => ∃ (c : V) (cv : Value) (b : Bool) (w : V), xs = [.ref a, c] ∧ (∀ u, RelV c u → u = cv) ∧ PySem.W.kitOne K (.ref C) cv = some b ∧ Rd H d (.xd [(("what" : Str), w)]) ∧ Q (.bl b) H
theorem call_isX (R : ErrX Z T a c d C oe) : CallR Z (.builtin "isinstance") (rIsX Z.K C a d) := by
  intro pins s σ H xs us Q I r h
  obtain ⟨c', cv, b, w, rfl, hcv, e, ed, q⟩ := h
  cases r with
  | cons rx rr =>
    cases rr with
    | cons rt rr =>
      cases rr
      cases rx
      have ec := hcv _ rt
      subst ec
      obtain ⟨hget, _⟩ := I.pin (a, oe) (List.mem_append_left _ R.p)
      obtain ⟨vs, hv⟩ := R.f
      have hdx := R.z.2.1
      have hx : ObjOk Z.prog Z.w H s.heap d (.xd [(("what" : Str), w)]) := by
        rcases ed with ed | ⟨o, ed⟩
        · exact I.hok d _ ed
        · exact (I.hok d _ ed).2
      obtain ⟨mA, hns, _⟩ := hx
      obtain ⟨od, hod, _⟩ := lookIn_ns hns
      have J : PySem.W.InstAt s.heap a oe C (some od) := ⟨hget, R.z.1, by unfold PySem.W.notCls; rw [hv] <;> rfl, by rw [hdx]; exact hod⟩
      exact PySem.W.kia_one (PySem.W.kitx_exc R.k.cl R.k.ga R.k.gg R.k.ex R.k.ca R.k.cg R.k.ct R.k.ob) I.kIn J e (fun z => nomatch z) fun tk => ⟨.bl b, H, I.kept (t' := tk) fun _ _ z => z, rfl, q⟩
theorem ad_isX {tbl : Str → Str → Option Bool} (R : ErrX Z T a c d C oe) (F : ClsT Z.K Z.mg tbl) (hv : Z.mg ("ValueError" : Str) = none) : AdqL (gOf Z T) E (rIsX Z.K C a d) (qIsE tbl) := fun ρ H st xs vs Q hS rs h => by
  unfold qIsE at h
  split at h
  · rename_i c' w x
    obtain ⟨v, u, rfl, r1, r2⟩ := all2 rs
    split at h
    · rename_i b e
      cases r1 with
      | err h2 h3 h4 h5 =>
        rw [R.t] at h2
        cases h2
        cases r2 with
        | con hm => exact ⟨_, _, b, _, rfl, fun u hu => hu, (F.own _ _ b _ _ e R.m hm).2, h3, post_val h hS (.bl b)⟩
    · exact h.elim
  · rename_i c' w
    obtain ⟨v, u, rfl, r1, r2⟩ := all2 rs
    split at h
    · rename_i b e
      cases r1 with
      | err h2 h3 h4 h5 =>
        rw [R.t] at h2
        cases h2
        cases r2
        exact ⟨_, .type "ValueError", b, _, rfl, fun u hu => hu, (F.blt _ b _ e R.m hv).2, h3, post_val h hS (.bl b)⟩
    · exact h.elim
  · exact h.elim
variable {es : List Expr} {fs : DA} {p : Pos}
theorem ev_isE {tbl : Str → Str → Option Bool} (R : ErrX Z T a c d C oe) (F : ClsT Z.K Z.mg tbl) (hv : Z.mg ("ValueError" : Str) = none) (hg : Gl Z "isinstance") (hm : Z.mg "isinstance" = none) (ha : EA Z T E (e :: es) fs) (hs : starEach (e :: es) Z.env = (false, eval e Z.env) :: starEach es Z.env := by rfl) (hpl : (backTo pos (starEach es Z.env)).any (·.1) = false := by rfl) : EV Z T E (.Call (.Name "isinstance" p) (e :: es) [] pos) (dAl (qIsE tbl) fs) :=
  ev_bi (call_isX R) (ad_isX R F hv) hg hm (by decide +kernel) ha (by decide) (by decide) hs hpl
end
end DN
namespace DN
open PySem PySem.Spec PyProof.Rows L2
mutual
def noE : PV → Bool
  | .err _ _ => false
  | .fnv l => noEs l
  | .tup l => noEs l
  | .ftp l => noEs l
  | .lst l => noEs l
  | .scr l => noEs l
  | .dK _ l => noEs l
  | .dT _ l => noEs l
  | .ref _ => true
  | .non => true
  | .bl _ => true
  | .int _ => true
  | .str _ => true
  | .con _ => true
  | .ty _ => true
def noEs : List PV → Bool
  | [] => true
  | p :: ps => noE p && noEs ps
end
def noO : SO → Bool
  | .lst l => noEs l
  | .dK es => noEs (es.map (·.2))
  | .dT es => noEs (es.map (·.2))
  | .ins _ fs => noEs (fs.map (·.2))
abbrev TR.er (T : TR) (q : Addr × Str × Addr) : TR := ⟨T.tabs, T.res, some q, T.lam⟩
section
variable {K : PySem.W.Frag} {mg : Str → Option Value} {T : TR} {ρ ρ' : List Addr} {H H' : Hp} {q : Addr × Str × Addr} {st st' : Store}
mutual
theorem noE_of (h0 : T.err = none) : ∀ {p : PV} {v : V}, Rl ⟨K, mg, T⟩ ρ H p v → noE p = true
  | _, _, .non => by simp only [noE]
  | _, _, .bl b => by simp only [noE]
  | _, _, .int i => by simp only [noE]
  | _, _, .str x => by simp only [noE]
  | _, _, .ty n => by simp only [noE]
  | _, _, .tup h r => by simp only [noE]; exact noEs_of h0 r
  | _, _, .ftp h r => by simp only [noE]; exact noEs_of h0 r
  | _, _, .lst h r => by simp only [noE]; exact noEs_of h0 r
  | _, _, .dK h n k r => by simp only [noE]; exact noEs_of h0 r
  | _, _, .dT h n k r => by simp only [noE]; exact noEs_of h0 r
  | _, _, .ref h => by simp only [noE]
  | _, _, .con h => by simp only [noE]
  | _, _, .scr h r => by simp only [noE]; exact noEs_of h0 r
  | _, _, .err h2 h n r => by rw [show T.err = _ from h2] at h0; cases h0
  | _, _, .fnv h2 h r => by simp only [noE]; exact noEs_of h0 r
theorem noEs_of (h0 : T.err = none) : ∀ {ps : List PV} {vs : List V}, RlAll ⟨K, mg, T⟩ ρ H ps vs → noEs ps = true
  | _, _, .nil => by simp only [noEs]
  | _, _, .cons r t => by simp only [noEs, noE_of h0 r, noEs_of h0 t, Bool.and_self]
end
mutual
theorem Rl.unerr : ∀ {p : PV} {v : V}, noE p = true → Rl ⟨K, mg, T.er q⟩ ρ H p v → Rl ⟨K, mg, T⟩ ρ H p v
  | _, _, _, .non => .non
  | _, _, _, .bl b => .bl b
  | _, _, _, .int i => .int i
  | _, _, _, .str x => .str x
  | _, _, _, .ty n => .ty n
  | _, _, e, .tup h r => .tup h (RlAll.unerr (by simpa only [noE] using e) r)
  | _, _, e, .ftp h r => .ftp h (RlAll.unerr (by simpa only [noE] using e) r)
  | _, _, e, .lst h r => .lst h (RlAll.unerr (by simpa only [noE] using e) r)
  | _, _, e, .dK h n k r => .dK h n k (RlAll.unerr (by simpa only [noE] using e) r)
  | _, _, e, .dT h n k r => .dT h n k (RlAll.unerr (by simpa only [noE] using e) r)
  | _, _, _, .ref h => .ref h
  | _, _, _, .con h => .con h
  | _, _, e, .scr h r => .scr h (RlAll.unerr (by simpa only [noE] using e) r)
  | _, _, e, .err h2 h n r => by simp only [noE] at e; cases e
  | _, _, e, .fnv h2 h r => .fnv h2 h (RlAll.unerr (by simpa only [noE] using e) r)
theorem RlAll.unerr : ∀ {ps : List PV} {vs : List V}, noEs ps = true → RlAll ⟨K, mg, T.er q⟩ ρ H ps vs → RlAll ⟨K, mg, T⟩ ρ H ps vs
  | _, _, _, .nil => .nil
  | _, _, e, .cons r t => by
    simp only [noEs, Bool.and_eq_true] at e
    exact .cons (Rl.unerr e.1 r) (RlAll.unerr e.2 t)
end
theorem RlO.unerr {o : SO} {a : Addr} (e : noO o = true) (h : RlO ⟨K, mg, T.er q⟩ ρ H o a) : RlO ⟨K, mg, T⟩ ρ H o a := by
  cases h with
  | lst h r => exact .lst h (r.unerr e)
  | dK h x r => exact .dK h x (r.unerr e)
  | dT h x r => exact .dT h x (r.unerr e)
  | ins c h x r => exact .ins c h x (r.unerr e)
theorem noO_of (h0 : T.err = none) {o : SO} {a : Addr} (h : RlO ⟨K, mg, T⟩ ρ H o a) : noO o = true := by
  cases h with
  | lst h r => exact noEs_of h0 r
  | dK h x r => exact noEs_of h0 r
  | dT h x r => exact noEs_of h0 r
  | ins c h x r => exact noEs_of h0 r
theorem mv_er (h0 : T.err = none) : Mv T ρ H (T.er q) ρ H := ⟨List.prefix_refl _, fun _ _ r o _ => ⟨r, o⟩, fun _ _ _ h => h, fun _ h => (by rw [h0] at h; cases h), fun _ h => h⟩
theorem rls_er (h0 : T.err = none) (h : RlS ⟨K, mg, T⟩ ρ H st) : RlS ⟨K, mg, T.er q⟩ ρ H st := ⟨h.len, h.nd, fun n o a h1 h2 => (h.at_ n o a h1 h2).mv (mv_er h0) (fun _ z => z), h.tabs, h.res⟩
def samE (st st' : Store) : Prop := ∀ (n : Nat) (o : SO), st'[n]? = some o → st[n]? = some o ∨ noO o = true
theorem rls_uner (h0 : T.err = none) (hS : RlS ⟨K, mg, T⟩ ρ H st) (s : samE st st') (h : RlS ⟨K, mg, T.er q⟩ ρ' H' st') : RlS ⟨K, mg, T⟩ ρ' H' st' := ⟨h.len, h.nd, fun n o a h1 h2 => (h.at_ n o a h1 h2).unerr (by
    rcases s n o h1 with z | z
    · have hn : n < ρ.length := by rw [hS.len]; exact (List.getElem?_eq_some_iff.mp z).1
      exact noO_of h0 (hS.at_ n o ρ[n] z (List.getElem?_eq_getElem hn))
    · exact z), h.tabs, h.res⟩
theorem ext_uner (x : Ext (T.er q) ρ H ρ' H') : Ext T ρ H ρ' H' := ⟨x.pre, x.keep, x.new, x.free, x.tups, x.rs⟩
end
abbrev Cl1 := Str × Option Nat × DS
def nE (n : Nat) (o : Option Nat) (c : Str) (w : PV) : AE := match o with
  | none => List.replicate n none
  | some i => (List.replicate n none).set i (some (.err c w))
open Classical in
noncomputable def endH (n : Nat) (st : Store) (r : Res (Fl × AE)) : Res (Fl × AE) := match r with
  | .ok (.rt p, _) st' => if noE p = true ∧ samE st st' then .ok (.rt p, List.replicate n none) st' else .fail
  | .ok (.nx, aσ) st' => if samE st st' ∧ aσ.length = n then .ok (.nx, List.replicate n none) st' else .fail
  | .ok (.bk, aσ) st' => if samE st st' ∧ aσ.length = n then .ok (.bk, List.replicate n none) st' else .fail
  | .ok (.ct, aσ) st' => if samE st st' ∧ aσ.length = n then .ok (.ct, List.replicate n none) st' else .fail
  | _ => .fail
noncomputable def runH (tbl : Str → Str → Option Bool) (n : Nat) (c : Str) (w : PV) : List Cl1 → M (Fl × AE)
  | [] => fun st => .exc c w st
  | (x, o, g) :: r => fun st => match tbl c x with
    | some true => endH n st (g (nE n o c w) st)
    | some false => runH tbl n c w r st
    | none => .fail
noncomputable def sTry (tbl : Str → Str → Option Bool) (n : Nat) (f : DS) (l : List Cl1) : DS := fun σ st => match f σ st with
  | .ok r st' => .ok r st'
  | .exc c w st' => runH tbl n c w l st'
  | .fail => .fail
inductive HdE (X : Cx) (T : TR) : List ExceptHandler → List Cl1 → Prop
  | nil : HdE X T [] []
  | plain {x : Str} {D : Addr} {g : DS} {b₀ : Stmt} {suite : List Stmt} {np pos : Pos} {hds : List ExceptHandler} {l : List Cl1} (hg : Gl X x) (hdb : (x == ("__debug__" : Str)) = false) (hm : X.mg x = some (.ref D))
      (hsu : ∀ (a : Addr) (oe : Obj) (c : Str) (d C : Addr) (pn : List (Addr × Obj)), ErrX (X.suite a ((a, oe) :: pn)) (T.er (a, c, d)) a c d C oe → ESs (X.suite a ((a, oe) :: pn)) (T.er (a, c, d)) E0' (b₀ :: suite) g) (r : HdE X T hds l) :
      HdE X T (.ExceptHandler (some (.Name x np)) none (b₀ :: suite) pos :: hds) ((x, none, g) :: l)
  | named {x n : Str} {i : Nat} {D : Addr} {g : DS} {b₀ : Stmt} {suite : List Stmt} {np pos : Pos} {hds : List ExceptHandler} {l : List Cl1} (hi : X.N[i]? = some n) (hln : X.env.kindOf n = some .local) (hg : Gl X x) (hdb : (x == ("__debug__" : Str)) = false) (hm : X.mg x = some (.ref D))
      (hsu : ∀ (a : Addr) (oe : Obj) (c : Str) (d C : Addr) (pn : List (Addr × Obj)), ErrX (X.suite a ((a, oe) :: pn)) (T.er (a, c, d)) a c d C oe → ESs (X.suite a ((a, oe) :: pn)) (T.er (a, c, d)) E0' (b₀ :: suite) g) (r : HdE X T hds l) :
      HdE X T (.ExceptHandler (some (.Name x np)) (some n) (b₀ :: suite) pos :: hds) ((x, some i, g) :: l)
section
variable {X : Cx} {T : TR} {E : XK} {tbl : Str → Str → Option Bool}
def tsE (X : Cx) (T : TR) (g : DS) : Addr → Value → Option Addr → TS := fun a cls d Dd σ H => ∃ (c : Str) (C dd : Addr), cls = .ref C ∧ d = some dd ∧ X.mg c = some (.ref C) ∧ ErrC X.K C ∧ Ts (gOf X (T.er (a, c, dd))) E0' g Dd σ H
theorem tsE_ok {a : Addr} {oe : Obj} {cls : Value} {d : Option Addr} {pn : List (Addr × Obj)} {g : DS} {ss : List Stmt} (z : L2N.Zn cls d oe) (f : ∃ vs, oe.data = .fields vs)
    (hsu : ∀ (a : Addr) (oe : Obj) (c : Str) (d C : Addr) (pn : List (Addr × Obj)), ErrX (X.suite a ((a, oe) :: pn)) (T.er (a, c, d)) a c d C oe → ESs (X.suite a ((a, oe) :: pn)) (T.er (a, c, d)) E0' ss g) : PSs (X.suite a ((a, oe) :: pn)) ss (tsE X T g a cls d) := by
  refine ⟨fun pins s σ H D I h => ?_⟩
  obtain ⟨c, C, dd, rfl, rfl, hm, k, h⟩ := h
  exact (hsu a oe c dd C pn ⟨rfl, hm, z, f, k, List.mem_cons_self, rfl, f.choose, f.choose_spec, z.2.2 _ f.choose_spec⟩).run pins s σ H D I h
inductive LkE (X : Cx) (T : TR) : List Hdl → List Cl1 → Prop
  | nil : LkE X T [] []
  | cons {x : Str} {D : Addr} {o : Option Nat} {g : DS} {l' : List Hdl} {l : List Cl1} (hm : X.mg x = some (.ref D)) (r : LkE X T l' l) : LkE X T ((.ref D, o, tsE X T g) :: l') ((x, o, g) :: l)
theorem hdA_of : ∀ {hds : List ExceptHandler} {l : List Cl1}, HdE X T hds l → ∃ l' : List Hdl, HdA X hds l' ∧ LkE X T l' l
  | _, _, .nil => ⟨[], .nil, .nil⟩
  | _, _, .plain hg hdb hm hsu r => by
    obtain ⟨l', h, e⟩ := hdA_of r
    exact ⟨_, .plain (ts := tsE X T _) ⟨hg, hdb, .inl hm⟩ (fun a oe cls d pn z f => tsE_ok z f hsu) h, .cons hm e⟩
  | _, _, .named hi hln hg hdb hm hsu r => by
    obtain ⟨l', h, e⟩ := hdA_of r
    exact ⟨_, .named (ts := tsE X T _) hi hln ⟨hg, hdb, .inl hm⟩ (fun a oe cls d pn z f => tsE_ok z f hsu) h, .cons hm e⟩
theorem rlE_none {G : DG} {ρ : List Addr} {H : Hp} {σ : St} {n : Nat} (h : σ.length = n) : RlE G ρ H (List.replicate n none) σ := ⟨by simp [h], fun i p e => by
  rw [List.getElem?_replicate] at e
  split at e <;> cases e⟩
theorem endH_post {ρ : List Addr} {H : Hp} {n : Nat} {st : Store} {r : Res (Fl × AE)} {D : Ends} {q : Addr × Str × Addr} {o : Option Nat} (h0 : T.err = none) (hS : RlS (gOf X T) ρ H st) (h : Pst (gOf X T) E ρ H (KS (gOf X T) D) (endH n st r)) : Pst (gOf X (T.er q)) E0' ρ H (KS (gOf X (T.er q)) (endsO D o)) r := by
  cases r with
  | ok r st' =>
    obtain ⟨fl, aσ⟩ := r
    have go : ∀ {fl' : Fl}, (∀ ρ' H', Ext T ρ H ρ' H' → RlS (gOf X T) ρ' H' st' → ∀ σ, σ.length = n → KF (gOf X T) D ρ' H' σ fl') → samE st st' → ∀ ρ' H', Ext (T.er q) ρ H ρ' H' → RlS (gOf X (T.er q)) ρ' H' st' → ∀ σ, σ.length = n → KF (gOf X T) D ρ' H' σ fl' :=
      fun k sm ρ' H' x s σ hl => k ρ' H' (ext_uner x) (rls_uner h0 hS sm s) σ hl
    have lo : ∀ σ : St, σ.length = n → (match o with | none => σ | some i => σ.set i none).length = n := fun σ hl => by cases o <;> simp [hl]
    cases fl with
    | rt p =>
      unfold endH at h
      dsimp only at h
      split at h
      · rename_i hc
        intro ρ' H' x s σ hE v r
        have := go (fl' := .rt p) (fun ρ' H' x s σ hl => h ρ' H' x s σ (rlE_none hl)) hc.2 ρ' H' x s (List.replicate n none) (by simp) v (r.unerr hc.1)
        cases o <;> exact this
      · exact h.elim
    | nx =>
      unfold endH at h
      dsimp only at h
      split at h
      · rename_i hc
        intro ρ' H' x s σ hE
        have hl : σ.length = n := by rw [← hE.len]; exact hc.2
        have := go (fl' := .nx) (fun ρ' H' x s σ hl => h ρ' H' x s σ (rlE_none hl)) hc.1 ρ' H' x s _ (lo σ hl)
        cases o <;> exact this
      · exact h.elim
    | bk =>
      unfold endH at h
      dsimp only at h
      split at h
      · rename_i hc
        intro ρ' H' x s σ hE
        have hl : σ.length = n := by rw [← hE.len]; exact hc.2
        have := go (fl' := .bk) (fun ρ' H' x s σ hl => h ρ' H' x s σ (rlE_none hl)) hc.1 ρ' H' x s _ (lo σ hl)
        cases o <;> exact this
      · exact h.elim
    | ct =>
      unfold endH at h
      dsimp only at h
      split at h
      · rename_i hc
        intro ρ' H' x s σ hE
        have hl : σ.length = n := by rw [← hE.len]; exact hc.2
        have := go (fl' := .ct) (fun ρ' H' x s σ hl => h ρ' H' x s σ (rlE_none hl)) hc.1 ρ' H' x s _ (lo σ hl)
        cases o <;> exact this
      · exact h.elim
  | exc c w st' => exact False.elim h
  | fail => exact False.elim h
theorem wall_of {n : Nat} {c : Str} {w : PV} {D : Ends} (h0 : T.err = none) (F : ClsT X.K X.mg tbl) : ∀ {l' : List Hdl} {l : List Cl1}, LkE X T l' l → ∀ {st : Store} {ρ : List Addr} {H : Hp} {ca d : Addr} {v : V}, Pst (gOf X T) E ρ H (KS (gOf X T) D) (runH tbl n c w l st) → RlS (gOf X T) ρ H st → X.mg c = some (.ref ca) → H d = some (Xd v) → Out T ρ d → Rl (gOf X T) ρ H w v →
    ∀ σ : St, σ.length = n → wAll X.K (fun cls d _ H => E cls d H) D l' (.ref ca) (some d) σ H
  | _, _, .nil, st, ρ, H, ca, d, v, h, hS, hc, hd, ho, r, σ, hl => h ρ H ca d v Ext.refl hS hc hd ho r
  | _, _, .cons (x := x) (D := Da) (o := o) (g := g) hm lk, st, ρ, H, ca, d, v, h, hS, hc, hd, ho, r, σ, hl => by
    unfold runH at h
    cases e : tbl c x with
    | none => rw [e] at h; exact h.elim
    | some b =>
      rw [e] at h
      refine ⟨b, (F.own c x b ca Da e hc hm).1, fun hb a ha => ?_, fun hb => ?_⟩
      · subst hb
        refine ⟨c, ca, d, rfl, rfl, hc, F.err c x true ca e hc, ρ, nE n o c w, st, ?_, rls_er h0 hS, ?_⟩
        · have rw' : Rl (gOf X (T.er (a, c, d))) ρ H w v := Rl.mv (mv_er h0) r
          have re : Rl (gOf X (T.er (a, c, d))) ρ H (.err c w) (.ref a) := .err rfl (.inl hd) ho rw'
          cases o with
          | none => exact rlE_none hl
          | some i => exact RlE.set (rlE_none hl) re
        · exact endH_post h0 hS h
      · subst hb
        exact wall_of h0 F lk h hS hc hd ho r σ hl
theorem takes_len {W : WX} {E' : XK} (tk : L2N.Takes X W) (h : ∀ cls d (σ : St) H, σ.length = X.N.length → E' cls d H → W cls d σ H) : L2N.Takes X fun cls d _ H => E' cls d H := fun u s' ⟨a, B, sI, pins, σ, H, cls, d, e, I, nb, up, sky, na, os, ag, w⟩ =>
  tk u s' ⟨a, B, sI, pins, σ, H, cls, d, e, I, nb, up, sky, na, os, ag, h cls d σ H I.len w⟩
theorem es_try {body : List Stmt} {h₀ : ExceptHandler} {hds : List ExceptHandler} {l : List Cl1} {pos : Pos} {f : DS} (h0 : T.err = none) (F : ClsT X.K X.mg tbl) (hs : X.stack = X.env :: X.outer) (hf : X.env.frame = some X.env.locals) (hN : X.N.Nodup) (tk : L2N.Takes X fun cls d _ H => E cls d H)
    (hb : ∀ (E' : XK) (pn : List (Addr × Obj)) (xe : Value → Shared → Prop), L2N.Takes (X.tr pn xe) (fun cls d _ H => E' cls d H) → PassesOwn (model X.prog X.w) X.A X.env xe → ESs (X.tr pn xe) T E' body f)
    (hh : HdE X T (h₀ :: hds) l) : ES X T E (.Try body (h₀ :: hds) [] [] pos) (sTry tbl X.N.length f l) := by
  obtain ⟨l', ha, lk⟩ := hdA_of hh
  refine ps_imp (ps_try_all (tb := fun W D σ H => ∃ E' : XK, (∀ cls d (σ' : St) H', σ'.length = X.N.length → E' cls d H' → W cls d σ' H') ∧ Ts (gOf X T) E' f D σ H) hs hf hN tk (fun W pn xe tk' po => ?_) ha) fun D σ H q => ?_
  · refine ⟨fun pins s σ H D I ⟨E', hE, h⟩ => ?_⟩
    exact (hb E' pn xe (takes_len tk' hE) po).run pins s σ H D I h
  · obtain ⟨ρ, aσ, st, hE, hS, h⟩ := q
    refine ⟨fun cls d H' => ∀ σ' : St, σ'.length = X.N.length → wAll X.K (fun cls d _ H => E cls d H) D l' cls d σ' H', fun cls d σ' H' hl w => w σ' hl, ρ, aσ, st, hE, hS, ?_⟩
    unfold sTry at h
    cases e : f aσ st with
    | ok r st' => rw [e] at h; exact h
    | exc c w st' =>
      rw [e] at h
      intro ρ' H' ca d v x s hc hd ho r σ' hl
      exact wall_of h0 F lk (h.base x) s hc hd ho r σ' hl
    | fail => rw [e] at h; exact h.elim
end
end DN
namespace DN
open PySem PySem.Spec PyProof.Rows L2
section
variable {G : DG} {ρ : List Addr} {H H1 : Hp} {st : Store}
theorem rlo_some {o : SO} {a : Addr} (h : RlO G ρ H o a) : ∃ w, H a = some w ∧ ∀ ps, w ≠ .tbl ps := by
  cases h with
  | lst h _ => exact ⟨_, h, fun _ z => by cases z⟩
  | dK h _ _ => exact ⟨_, h, fun _ z => by cases z⟩
  | dT h _ _ => exact ⟨_, h, fun _ z => by cases z⟩
  | ins _ h _ _ => exact ⟨_, h, fun _ z => by cases z⟩
theorem lam_ext (e : LamX.ExtN H H1) : Ext G.T ρ H ρ H1 := by
  have nt : ∀ a, NT H1 a → NT H a := fun a z => by
    cases q : H a with
    | none => exact .inl q
    | some u =>
      refine Classical.byContradiction fun hn => ?_
      have t : ∀ ps, u ≠ .tbl ps := fun ps e => hn (.inr ⟨ps, by rw [q, e]⟩)
      have h1 := e a u q t
      exact nt_some h1 t z
  refine ⟨List.prefix_refl _, fun a u r _ t => ?_, fun a h => .inl h, nt, fun a u t h => e a u h (fun ps z => by subst z; exact t), fun a _ hn => ?_⟩
  · rcases r with r | ⟨o, r⟩
    · exact .inl (e a u r t)
    · exact .inr ⟨o, e a _ r (fun ps z => by cases z)⟩
  · cases q : H a with
    | none => exact (hn (.inl q)).elim
    | some u => exact e a u q fun ps z => hn (.inr ⟨ps, by rw [q, z]⟩)
theorem lam_rls (e : LamX.ExtN H H1) (t : LamX.Tabs G.T.tabs H1) (hS : RlS G ρ H st) : RlS G ρ H1 st := by
  refine ⟨hS.len, hS.nd, fun n o a h1 h2 => ?_, t, fun a ha => ?_⟩
  · have r := hS.at_ n o a h1 h2
    obtain ⟨w, hw, tw⟩ := rlo_some r
    exact r.ext (lam_ext e) fun u hu => by
      rw [hw] at hu
      cases hu
      exact e a w hw tw
  · have z := hS.res a ha
    refine ⟨fun n => z.1 ((lam_ext (G := G) (ρ := ρ) e).free a n), z.2⟩
end
end DN
set_option maxHeartbeats 2000000
namespace DN
open PySem PySem.Spec PyProof.Rows L2
def FunC (K : PySem.W.Frag) (x qual : Str) (params : Arguments) (body : List Stmt) (scope : Scope) (f : Addr) (fd : FuncData) (c : Addr) : Prop := ∃ (oc : Value) (od : Option Addr) (dV kV doc pm : Value) (an : Option Addr) (ct : Value) (osl : Array (Option Value)),
  fd = PySem.W.fnOf x qual params body scope dV kV doc pm an (.ref c) ct ∧ K.lookup f = some ⟨oc, od, .func fd, osl⟩ ∧ PySem.W.codeIn K (.ref c) qual = true
section
variable {P : Program} {w : World} {K : PySem.W.Frag} {mg : Str → Option Value} {base : Heap} {x qual : Str} {params : Arguments} {body : List Stmt} {scope : Scope} {f c : Addr} {fd : FuncData} {N ps : List Str} {k : Nat} {g : DS} {tb : TBL}
theorem fn_okKT (F : FunC K x qual params body scope f fd c) (S : FnScope N ps scope)
    (hb : ∀ (T : TR) (_ : Tok tb T) (A : Around) (outer : List Env) (s : Shared) (H : Hp) (E : XK), RoomG k (A.deeper (envOfC qual scope s.heap.objs.size f (.ref c))) → ESs (cxOf (L2N.CX P w) P w K mg base N qual scope f (.ref c) A outer s H E) T E body g) :
    FnD P w K mg base tb (k + 1) f fd ps (dFnK ps.length N.length g) := by
  obtain ⟨oc, od, dV, kV, doc, pm, an, ct, osl, rfl, lk, hcd⟩ := F
  refine ⟨FnOkG.of lk hcd S (fun vs H Q E ⟨T, ρ, qs, st, _, _, r, hn, _⟩ => by rw [← r.length, hn]) fun A outer s H vs Q E hr ⟨T, ρ, qs, st, hT, hS, r, hn, h⟩ => ?_, fun qs st h => ?_⟩
  · refine ⟨_, hb T hT A outer s H E hr, ρ, _, st, rlE_start (ps := ps) r hn, hS, ?_⟩
    unfold dFnK at h
    rw [if_pos hn] at h
    refine h.bind.imp fun r' st' ρ' H' _ _ z σ' e' => ?_
    obtain ⟨fl, a'⟩ := r'
    cases fl with
    | nx => exact z.2.2.ret z.2.1 _ .non
    | bk => exact z.2.2.elim
    | ct => exact z.2.2.elim
    | rt v => exact fun u ru => z.2.2.ret z.2.1 u ru
  · unfold dFnK at h
    split at h
    · assumption
    · exact (h rfl).elim
theorem fn_okT (F : FunC K x qual params body scope f fd c) (S : FnScope N ps scope)
    (hb : ∀ (T : TR) (_ : Tok tb T) (A : Around) (outer : List Env) (s : Shared) (H : Hp) (E : XK), RoomG k (A.deeper (envOfC qual scope s.heap.objs.size f (.ref c))) → ESs (cxOf (L2N.CX P w) P w K mg base N qual scope f (.ref c) A outer s H E) T E body g) :
    FnD P w K mg base tb (k + 1) f fd ps (dFn ps.length N.length g) :=
  ⟨(fn_okKT F S hb).ok.imp fun vs H Q E ⟨T, ρ, qs, st, hT, hS, r, hn, h⟩ => ⟨T, ρ, qs, st, hT, hS, r, hn, gc_ok hS h⟩, fun qs st h => (fn_okKT F S hb).ar qs st fun e => h (by unfold dFn; rw [e]; rfl)⟩
end
end DN
set_option maxHeartbeats 4000000
namespace DN
open PySem PySem.Spec PyProof.Rows L2
def errB (K : PySem.W.Frag) (C : Addr) : Bool := (PySem.W.clsIn K C).isSome && (He.eqO (PySem.W.findIn K (.ref C) "__getattribute__") (some (some (.builtin "BaseException.__getattribute__"))) && (He.eqO (PySem.W.findIn K (.ref C) "__getattr__") (some none) &&
  (decide (PySem.W.subIn K (.ref C) (.type "BaseException") = some true) && (PySem.W.hasDictIn K C && (He.eqO (PySem.W.findIn K (.ref C) "what") (some none) && (He.eqO (PySem.W.findIn K (.ref C) "__class__") (some (some (.builtin "object.__class__"))) &&
  (He.eqO (PySem.W.specialIn K (.builtin "object.__class__") "__get__") (some (some (.builtin "getset_descriptor.__get__"))) && (decide (PySem.W.takesIn K (.builtin "object.__class__") = some true) && decide (PySem.W.mroIn K C (.type "object") = some true)))))))))
theorem errB_ok {K : PySem.W.Frag} {C : Addr} (h : errB K C = true) : ErrC K C := by
  unfold errB at h
  obtain ⟨h1, h⟩ := He.ba h
  obtain ⟨h2, h⟩ := He.ba h
  obtain ⟨h3, h⟩ := He.ba h
  obtain ⟨h4, h⟩ := He.ba h
  obtain ⟨h5, h⟩ := He.ba h
  obtain ⟨h6, h⟩ := He.ba h
  obtain ⟨h7, h⟩ := He.ba h
  obtain ⟨h8, h⟩ := He.ba h
  obtain ⟨h9, h⟩ := He.ba h
  exact ⟨h1, He.eqO_ok h2, He.eqO_ok h3, of_decide_eq_true h4, h5, He.eqO_ok h6, He.eqO_ok h7, He.eqO_ok h8, of_decide_eq_true h9, of_decide_eq_true h⟩
def tblOf (cl : List (Str × List Str)) (c x : Str) : Option Bool := match cl.lookup c with
  | some bs => if (cl.lookup x).isSome ∨ x = ("ValueError" : Str) then some (decide (x ∈ bs)) else none
  | none => none
def clsB (K : PySem.W.Frag) (cl : List (Str × List Str)) : Bool := cl.all fun p => errB K (He.ga K p.1) && (cl.all fun q => decide (PySem.W.exmOne K (.ref (He.ga K p.1)) (.ref (He.ga K q.1)) = some (decide (q.1 ∈ p.2))) && decide (PySem.W.kitOne K (.ref (He.ga K p.1)) (.ref (He.ga K q.1)) = some (decide (q.1 ∈ p.2)))) &&
  (decide (PySem.W.exmOne K (.ref (He.ga K p.1)) (.type "ValueError") = some (decide (("ValueError" : Str) ∈ p.2))) && decide (PySem.W.kitOne K (.ref (He.ga K p.1)) (.type "ValueError") = some (decide (("ValueError" : Str) ∈ p.2))))
theorem clsT_ok {K : PySem.W.Frag} {mg : Str → Option Value} {cl : List (Str × List Str)} (h : clsB K cl = true) (hm : ∀ p ∈ cl, mg p.1 = some (.ref (He.ga K p.1))) (hv : mg ("ValueError" : Str) = none) : ClsT K mg (tblOf cl) := by
  have get : ∀ {c : Str} {bs : List Str}, cl.lookup c = some bs → (c, bs) ∈ cl := fun {c bs} e => PySem.mem_of_lookup e
  have one : ∀ {c : Str} {bs : List Str}, cl.lookup c = some bs → _ := fun {c bs} e => List.all_eq_true.mp h (c, bs) (get e)
  have tb : ∀ {c x : Str} {b : Bool}, tblOf cl c x = some b → ∃ bs, cl.lookup c = some bs ∧ ((cl.lookup x).isSome ∨ x = ("ValueError" : Str)) ∧ b = decide (x ∈ bs) := fun {c x b} e => by
    unfold tblOf at e
    split at e
    · rename_i bs e2
      split at e
      · rename_i z
        cases e
        exact ⟨bs, e2, z, rfl⟩
      · cases e
    · cases e
  refine ⟨fun c x b C D e hc hx => ?_, fun c b C e hc hv2 => ?_, fun c x b C e hc => ?_⟩
  · obtain ⟨bs, e1, e2, rfl⟩ := tb e
    obtain ⟨h2, _⟩ := He.ba (one e1)
    obtain ⟨_, h2⟩ := He.ba h2
    rw [hm _ (get e1)] at hc
    cases hc
    rcases e2 with e2 | e2
    · obtain ⟨bx, e3⟩ := Option.isSome_iff_exists.mp e2
      rw [hm _ (get e3)] at hx
      cases hx
      obtain ⟨h3, h4⟩ := He.ba (List.all_eq_true.mp h2 (x, bx) (get e3))
      exact ⟨of_decide_eq_true h3, of_decide_eq_true h4⟩
    · rw [e2, hv] at hx
      cases hx
  · obtain ⟨bs, e1, e2, rfl⟩ := tb e
    obtain ⟨_, h3⟩ := He.ba (one e1)
    rw [hm _ (get e1)] at hc
    cases hc
    obtain ⟨h3, h4⟩ := He.ba h3
    exact ⟨of_decide_eq_true h3, of_decide_eq_true h4⟩
  · obtain ⟨bs, e1, e2, rfl⟩ := tb e
    obtain ⟨h1, _⟩ := He.ba (one e1)
    obtain ⟨h1, _⟩ := He.ba h1
    rw [hm _ (get e1)] at hc
    cases hc
    exact errB_ok h1
abbrev IniW : Type := Option (Str × Str × Arguments × FuncBody × Scope × Addr × List Str × Addr)
def iniW (K : PySem.W.Frag) (p : Str × Option Str) : IniW := match K.lookup (He.fAd K p) with
  | some ⟨_, _, .func fd, _⟩ => some (fd.name, fd.qualname, fd.params, fd.body, fd.scope, fd.globals, fd.closure.map (·.1), fd.builtins)
  | _ => none
def initB (P : Program) (K : PySem.W.Frag) (fI D : Addr) (qual : Str) : Bool := (match K.lookup fI with
  | some ⟨_, _, .func fd, _⟩ => (match fd.defaults, fd.kwdefaults, fd.annotations, fd.code, fd.closure with
    | .none, .none, none, .ref cda, [(_, cc)] => PySem.W.codeIn K (.ref cda) qual && ((match K.lookup cda with
        | some ⟨_, _, .fields vs, _⟩ => (match (vs[2]? : Option Value) with
          | some (Value.str file _) => ((P.main.file : Str) == file)
          | _ => false)
        | _ => false) && (match K.lookup cc with
        | some ⟨_, _, .cell (some (.ref d)), _⟩ => decide (d = D)
        | _ => false))
    | _, _, _, _, _ => false)
  | _ => false) && ((PySem.W.clsIn K D).isSome && (decide (PySem.W.typeIn K (.ref fI) = some (.type "function")) && (He.eqO (PySem.W.nsIn K cStatics "thirdparty.any") (some none) && !(P.main.scope.names.lookup ("super" : Str)).isSome)))
theorem initF_ok {P : Program} {K : PySem.W.Frag} {mg : Str → Option Value} {p : Str × Option Str} {D : Addr} {params : Arguments} {body : List Stmt} {scope : Scope} {qual : Str} (e : iniW K p = some (("__init__" : Str), qual, params, FuncBody.stmts body, scope, mainGlobals, [("__class__" : Str)], builtinsNs)) (h : initB P K (He.fAd K p) D qual = true) (hs : mg "super" = none) : InitF P K mg (He.fAd K p) D params body scope qual := by
  unfold initB at h
  obtain ⟨h1, h⟩ := He.ba h
  obtain ⟨h2, h⟩ := He.ba h
  obtain ⟨h3, h⟩ := He.ba h
  obtain ⟨h4, h5⟩ := He.ba h
  refine ⟨?_, Option.isSome_iff_exists.mp h2, of_decide_eq_true h3, He.eqO_ok h4, hs, by simpa using h5⟩
  unfold iniW at e
  split at e
  · rename_i oc od fd osl lk
    rw [lk] at h1
    dsimp only at h1
    split at h1
    · rename_i cda nm cc e1 e2 e3 e4 e5
      obtain ⟨g1, h1⟩ := He.ba h1
      obtain ⟨g2, g3⟩ := He.ba h1
      obtain ⟨fn, fq, fp, fb, fs, fg, fc, fdd, fk, fdoc, fpm, fan, fcd, fct, fbl⟩ := fd
      simp only [Option.some.injEq, Prod.mk.injEq] at e
      obtain ⟨rfl, rfl, rfl, rfl, rfl, rfl, z, rfl⟩ := e
      dsimp only at e1 e2 e3 e4 e5
      subst e1 e2 e3 e4 e5
      simp only [List.map_cons, List.map_nil, List.cons.injEq, and_true] at z
      subst z
      refine ⟨oc, od, fdoc, fpm, fct, osl, cc, cda, lk, g1, ?_, ?_⟩
      · split at g2
        · rename_i a b vs c l2
          split at g2
          · rename_i file tf l3
            exact ⟨a, b, vs, c, file, tf, l2, l3, g2⟩
          · cases g2
        · cases g2
      · split at g3
        · rename_i a b d c l2
          have := of_decide_eq_true g3
          subst this
          exact ⟨_, _, _, l2⟩
        · cases g3
    · cases h1
  · cases e
def oexB (K : PySem.W.Frag) (C : Addr) : Bool := (match K.lookup C with
  | some ⟨.type t, _, .cls cd, sl⟩ => decide (t = "type") && (match cd.mro, sl.toList with
    | .ref C' :: bm, [_, _, _, _, some (.builtin n), _] => decide (C' = C) && (decide (n = "ValueError.__new__") && (!cd.hasDel && (cd.hasDict && PySem.HandSPX.refsVE bm)))
    | _, _ => false)
  | _ => false) && (He.eqO (PySem.W.findIn K (.ref C) "__setattr__") (some (some (.builtin "object.__setattr__"))) && (decide (PySem.W.subIn K (.ref C) (.type "BaseException") = some true) && (decide (PySem.W.typeIn K (.ref C) = some (.type "type")) && PySem.W.keepIn K (.ref C))))
theorem oexB_ok {K : PySem.W.Frag} {C : Addr} (h : oexB K C = true) : OexC K C := by
  unfold oexB at h
  obtain ⟨h1, h⟩ := He.ba h
  obtain ⟨h2, h⟩ := He.ba h
  obtain ⟨h3, h⟩ := He.ba h
  obtain ⟨h4, h5⟩ := He.ba h
  refine ⟨?_, He.eqO_ok h2, of_decide_eq_true h3, of_decide_eq_true h4, h5⟩
  split at h1
  · rename_i t dd cd sl lk
    obtain ⟨g1, g2⟩ := He.ba h1
    have g1 := of_decide_eq_true g1
    subst g1
    split at g2
    · rename_i C' bm k0 k1 k2 k3 n k5 hm hs
      obtain ⟨e1, g2⟩ := He.ba g2
      obtain ⟨e2, g2⟩ := He.ba g2
      obtain ⟨e3, g2⟩ := He.ba g2
      obtain ⟨e4, e5⟩ := He.ba g2
      have e1 := of_decide_eq_true e1
      have e2 := of_decide_eq_true e2
      obtain ⟨nm, bs, mro, ns, qn, hd, sn, sub, ab, col, del⟩ := cd
      obtain ⟨l⟩ := sl
      simp only [Bool.not_eq_true'] at e3
      dsimp only at hm hs e3 e4
      subst e1 e2 e3 e4 hm hs
      exact ⟨_, _, _, _, _, _, _, _, _, _, _, _, _, _, _, lk, e5⟩
    · cases g2
  · cases h1
def excB (K : PySem.W.Frag) (fI D C : Addr) : Bool := oexB K C && (decide (PySem.W.mroIn K C (.ref D) = some true) && (He.eqO (PySem.W.ks_superIn K C D "__init__") (some (some (.builtin "ValueError.__init__"))) && (decide (PySem.W.subIn K (.ref C) (.type "ValueError") = some true) &&
  (He.eqO (PySem.W.findIn K (.ref C) "__init__") (some (some (.ref fI))) && He.eqO (PySem.W.findIn K (.ref C) "what") (some none)))))
theorem excB_ok {K : PySem.W.Frag} {fI D C : Addr} (h : excB K fI D C = true) : ExcF K fI D C := by
  unfold excB at h
  obtain ⟨h1, h⟩ := He.ba h
  obtain ⟨h2, h⟩ := He.ba h
  obtain ⟨h3, h⟩ := He.ba h
  obtain ⟨h4, h⟩ := He.ba h
  obtain ⟨h5, h6⟩ := He.ba h
  exact ⟨oexB_ok h1, of_decide_eq_true h2, He.eqO_ok h3, of_decide_eq_true h4, He.eqO_ok h5, He.eqO_ok h6⟩
end DN
namespace DN
open PySem PySem.Spec PyProof.Rows L2
def pGd (x : Str) (tab : List (Str × Str)) (p q : PV) : M PV := fun st => match p, q with
  | .con y, .str z => if y = x then (match tab.lookup z with
    | some v => .ok (.str v) st
    | none => .fail) else .fail
  | _, _ => .fail
def dRev (f : DE) : DE := fun σ st => (f σ st).bind fun p st => match asL p st with
  | some l => .ok (.lst l.reverse) st
  | none => .fail
section
variable {X : Cx} {T : TR} {E : XK} {G : DG} {ρ : List Addr} {H : Hp} {σ : St} {aσ : AE} {st : Store} {a b e : Expr} {fb f : DE} {pos : Pos}
end
end DN
namespace DN
open PySem PySem.Spec PyProof.Rows L2
def csOf (K : PySem.W.Frag) (tf : List He.Defn) : List (Addr × Addr) := tf.map (He.cT K)
def tbOf (K : PySem.W.Frag) (tf : List (He.Defn × Str)) : List (Addr × Str) := tf.map fun p => ((He.cT K p.1).2, p.2)
def tfB (K : PySem.W.Frag) (tf : List (He.Defn × Str)) : Bool := tf.all fun p => tf.all fun q => decide ((He.cT K p.1).2 = (He.cT K q.1).2 → p.2 = q.2)
def MkD (K : PySem.W.Frag) (mg : Str → Option Value) (cs : List (Addr × Addr)) (tb : List (Addr × Str)) (x q : Str) (params : Arguments) (body : List Stmt) (scope : Scope) : Prop :=
  ∃ f fd c P, FunD K x x params body scope [] [] f fd ∧ FunC K x x params body scope f fd c ∧ mg x = some (.ref f) ∧ (c, P) ∈ cs ∧ (P, q) ∈ tb ∧ ∀ p ∈ tb, p.1 = P → p.2 = q
section
variable {K : PySem.W.Frag} {mg : Str → Option Value}
theorem funC_of {x : Str} {p : He.Defn} {params : Arguments} {body : List Stmt} {scope : Scope} {f : Addr} {fd : FuncData} (D : FunD K x x params body scope [] [] f fd) (hf : f = He.fAd K p) : FunC K x x params body scope f fd (He.cT K p).1 := by
  obtain ⟨oc, od, dV, kV, doc, pm, an, cdv, ct, osl, e, lk, hc, _, _⟩ := D.ex
  obtain ⟨c, rfl⟩ := He.codeIn_ref hc
  subst hf
  have ec : He.codeOf K p = c := He.codeOf_eq lk (by rw [e])
  refine ⟨oc, od, dV, kV, doc, pm, an, ct, osl, ?_, lk, ?_⟩
  · show fd = PySem.W.fnOf x x params body scope dV kV doc pm an (.ref (He.codeOf K p)) ct
    rw [ec]
    exact e
  · show PySem.W.codeIn K (.ref (He.codeOf K p)) x = true
    rw [ec]
    exact hc
theorem mkD_of {x q : Str} {p : He.Defn} {params : Arguments} {body : List Stmt} {scope : Scope} {f : Addr} {fd : FuncData} {tf : List (He.Defn × Str)} (D : FunD K x x params body scope [] [] f fd) (hf : f = He.fAd K p) (hm : mg x = some (.ref f)) (ht : (p, q) ∈ tf) (hb : tfB K tf = true) :
    MkD K mg (csOf K (tf.map (·.1))) (tbOf K tf) x q params body scope := by
  refine ⟨f, fd, _, _, D, funC_of D hf, hm, ?_, List.mem_map.mpr ⟨_, ht, rfl⟩, fun r hr e => ?_⟩
  · exact List.mem_map.mpr ⟨p, List.mem_map.mpr ⟨_, ht, rfl⟩, rfl⟩
  · obtain ⟨u, hu, rfl⟩ := List.mem_map.mp hr
    unfold tfB at hb
    exact of_decide_eq_true (List.all_eq_true.mp (List.all_eq_true.mp hb u hu) _ ht) e
theorem tf_ok {fa : List He.Fa} {fn : List He.DefD} {ts : List He.Tab} {tf : List He.Defn} {ex : PySem.W.Frag → Bool} {w : World} {h : Heap} (X : K.In h) (c : He.SaysX fa fn ts tf ex w h K) :
    (∀ p ∈ csOf K tf, h.get? p.2 = some { cls := .none, data := .fields #[] }) ∧ (∀ p ∈ csOf K tf, K.lookup p.2 = none) ∧ ∀ p ∈ csOf K tf, PySem.W.CodeHd h p.1 p.2 := by
  refine ⟨fun p hp => ?_, fun p hp => ?_, fun p hp => ?_⟩
  all_goals obtain ⟨u, hu, rfl⟩ := List.mem_map.mp hp
  · exact c.empty u hu
  · exact c.out u hu
  · exact PySem.W.codeHd_of_K X (c.hd u hu)
theorem tb_cs {tf : List (He.Defn × Str)} : ∀ p ∈ tbOf K tf, ∃ c, (c, p.1) ∈ csOf K (tf.map (·.1)) := fun p hp => by
  obtain ⟨u, hu, rfl⟩ := List.mem_map.mp hp
  exact ⟨_, List.mem_map.mpr ⟨u.1, List.mem_map.mpr ⟨u, hu, rfl⟩, rfl⟩⟩
end
def mth (s : Stmt) : Stmt := match s with
  | .ClassDef _ _ _ (b :: _) _ _ _ _ _ _ _ => b
  | _ => .Pass ⟨0, 0, 0, 0⟩
theorem excCal_of {P : Program} {w : World} {K : PySem.W.Frag} {mg : Str → Option Value} {base : Heap} {x : Str} {C fI D : Addr} (hm : mg x = some (.ref C)) (E : ExcF K fI D C) (tF : PySem.W.typeIn K (.ref fI) = some (.type "function"))
    (h : ∃ fd, FnOk P w K mg base (L2N.CX P w) 1 fI fd ["self", "what"] (spIn K fI D) ∧ Binds K fd ["self", "what"] []) : ExcCal P w K mg base x := by
  obtain ⟨fd, h1, h2⟩ := h
  exact ⟨C, fI, D, fd, hm, E, tF, h1, h2⟩
end DN
namespace DN
open PySem PySem.Spec PyProof.Rows L2
section
variable {fa : List He.Fa} {fn : List He.DefD} {ts : List He.Tab} {tf : List He.Defn} {ex : PySem.W.Frag → Bool} {w : World}
theorem says_as {h : Heap} {as : List Addr} (e : He.obsT fa fn ts (He.frT h.get? as) = He.valT fn ts w) (e2 : (ex (He.frT h.get? as) && He.tabsB h.get? tf (He.frT h.get? as)) = true) : He.SaysX fa fn ts tf ex w h (He.frT h.get? as) := by
  obtain ⟨x1, x2⟩ := He.ba e2
  have one : ∀ p ∈ tf, PySem.W.codeHdIn (He.frT h.get? as) (He.cT (He.frT h.get? as) p).1 (He.cT (He.frT h.get? as) p).2 = true ∧ ∃ o, h.get? (He.cT (He.frT h.get? as) p).2 = some o ∧ He.emptyTab o = true := fun p hp => by
    obtain ⟨y1, y2⟩ := He.ba (List.all_eq_true.mp x2 p hp)
    refine ⟨y1, ?_⟩
    split at y2
    · rename_i o q
      exact ⟨o, q, y2⟩
    · cases y2
  refine ⟨e, x1, fun p hp => (one p hp).1, fun p hp => ?_, fun p hp => ?_⟩
  all_goals obtain ⟨_, o, q, z⟩ := one p hp
  · exact He.frT_none q z
  · rw [q, He.emptyTab_eq z]
end
def refsF (o : Obj) : List Addr := match o.data with
  | .seq its _ => its.toList.flatMap He.refV
  | .dict es _ => es.toList.flatMap fun e => He.refV e.val
  | .func fd => He.refV fd.code ++ (He.refV fd.defaults ++ (He.refV fd.kwdefaults ++ fd.closure.map (·.2)))
  | .cls cd => [cd.ns]
  | .fields vs => vs.toList.flatMap He.refV
  | .cell (some v) => He.refV v
  | _ => []
def nextF (g : Addr → Option Obj) (as : List Addr) : List Addr := as.flatMap fun a => match g a with
  | some o => refsF o
  | none => []
def frL {α : Type} : List Addr → (List Addr → α) → α
  | [], k => k []
  | a :: r, k => HandSHeadRun.frNat a fun a => frL r fun r => k (a :: r)
theorem frL_eq {α : Type} : ∀ (l : List Addr) (k : List Addr → α), frL l k = k l
  | [], _ => rfl
  | a :: r, k => by
    show HandSHeadRun.frNat a (fun a => frL r fun r => k (a :: r)) = _
    rw [HandSHeadRun.frNat_eq, frL_eq r]
def frK {α : Type} : PySem.W.Frag → (PySem.W.Frag → α) → α
  | [], k => k []
  | (a, ⟨c, d, dt, sl⟩) :: r, k => HandSHeadRun.frNat a fun a => frK r fun r => k ((a, ⟨c, d, dt, sl⟩) :: r)
theorem frK_eq {α : Type} : ∀ (l : PySem.W.Frag) (k : PySem.W.Frag → α), frK l k = k l
  | [], _ => rfl
  | (a, ⟨c, d, dt, sl⟩) :: r, k => by
    show HandSHeadRun.frNat a (fun a => frK r fun r => k ((a, ⟨c, d, dt, sl⟩) :: r)) = _
    rw [HandSHeadRun.frNat_eq, frK_eq r]
def asE {α : Type} (g : Addr → Option Obj) (k : List Addr → α) : α :=
  frL (nextF g [mainGlobals]) fun l1 => frL (nextF g l1) fun l2 => frL (nextF g l2) fun l3 => frL (nextF g l3) fun l4 => k (cStatics :: mainGlobals :: (l1 ++ (l2 ++ (l3 ++ l4))))
def asF (g : Addr → Option Obj) : List Addr :=
  cStatics :: mainGlobals :: (nextF g [mainGlobals] ++ (nextF g (nextF g [mainGlobals]) ++ (nextF g (nextF g (nextF g [mainGlobals])) ++ nextF g (nextF g (nextF g (nextF g [mainGlobals]))))))
theorem asE_eq {α : Type} (g : Addr → Option Obj) (k : List Addr → α) : asE g k = k (asF g) := by
  unfold asE asF
  simp only [frL_eq]
def obsK (fa : List He.Fa) (fn : List He.DefD) (ts : List He.Tab) (tf : List He.Defn) (ex : PySem.W.Frag → Bool) (p : Str × Option Str) (g : Addr → Option Obj) (K : PySem.W.Frag) : (He.AlT × Bool) × IniW :=
  ((He.obsT fa fn ts K, ex K && He.tabsB g tf K), iniW K p)
def obsE (n : Nat) (fa : List He.Fa) (fn : List He.DefD) (ts : List He.Tab) (tf : List He.Defn) (ex : PySem.W.Frag → Bool) (p : Str × Option Str) (g : Addr → Option Obj) : (He.AlT × Bool) × IniW :=
  asE g fun as => frL as fun as => frK (He.frT g as) fun K => obsK fa fn ts tf ex p g K
theorem obsE_K {n : Nat} {fa : List He.Fa} {fn : List He.DefD} {ts : List He.Tab} {tf : List He.Defn} {ex : PySem.W.Frag → Bool} {p : Str × Option Str} {g : Addr → Option Obj} : obsE n fa fn ts tf ex p g = obsK fa fn ts tf ex p g (He.frT g (asF g)) := by
  unfold obsE
  rw [asE_eq, frL_eq, frK_eq]
def hookF (n : Nat) (fa : List He.Fa) (fn : List He.DefD) (ts : List He.Tab) (tf : List He.Defn) (ex : PySem.W.Frag → Bool) (p : Str × Option Str) (v : IniW) : PySem.W.Hook where
  α := (He.AlT × Bool) × IniW
  obs := fun s => obsE n fa fn ts tf ex p s.heap.get?
  val := fun w => ((He.valT fn ts w, true), v)
  says := fun w h => ∃ K : PySem.W.Frag, K.In h ∧ He.SaysX fa fn ts tf ex w h K ∧ iniW K p = v
  of := fun _ _ e => have e := obsE_K.symm.trans e; ⟨_, He.frT_in, says_as (congrArg (fun z : (He.AlT × Bool) × IniW => z.1.1) e) (congrArg (fun z : (He.AlT × Bool) × IniW => z.1.2) e), congrArg (fun z : (He.AlT × Bool) × IniW => z.2) e⟩
  keeps := fun _ _ _ ⟨K, hK, c, d⟩ k => ⟨K, PySem.W.Frag.In.keeps hK k, ⟨c.t, c.more, c.hd, c.out, fun p hp => k _ _ (c.empty p hp)⟩, d⟩
theorem obsE_eq {n : Nat} {fa : List He.Fa} {fn : List He.DefD} {ts : List He.Tab} {tf : List He.Defn} {ex : PySem.W.Frag → Bool} {p : Str × Option Str} {v : IniW} {g : Addr → Option Obj} {s : Shared} (h : ∀ a, g a = s.heap.get? a) : obsE n fa fn ts tf ex p g = (hookF n fa fn ts tf ex p v).obs s := by
  have e : g = s.heap.get? := funext h
  rw [e]
  rfl
end DN
namespace DN
open PySem PySem.Spec PyProof.Rows L2
def qlam (x : Str) (sc : Scope) : Str := (envOfC x sc 0 0 .none).qual ++ "<lambda>"
end DN
namespace K86
open PySem PySem.Spec PyProof.Rows L2 DN
def cl : List (Str × List Str) := [(("Refused" : Str), [("Refused" : Str), ("ValueError" : Str)]), (("BadRooms" : Str), [("BadRooms" : Str), ("Refused" : Str), ("ValueError" : Str)]), (("BadForest" : Str), [("BadForest" : Str), ("Refused" : Str), ("ValueError" : Str)]), (("Ring" : Str), [("Ring" : Str), ("Refused" : Str), ("ValueError" : Str)]), (("Within" : Str), [("Within" : Str), ("Refused" : Str), ("ValueError" : Str)]), (("TooMany" : Str), [("TooMany" : Str), ("Refused" : Str), ("ValueError" : Str)]), (("BadNumber" : Str), [("BadNumber" : Str), ("Refused" : Str), ("ValueError" : Str)]), (("BadYard" : Str), [("BadYard" : Str), ("Refused" : Str), ("ValueError" : Str)]), (("BadCode" : Str), [("BadCode" : Str), ("Refused" : Str), ("ValueError" : Str)]), (("Hooked" : Str), [("Hooked" : Str), ("Refused" : Str), ("ValueError" : Str)]), (("NoHook" : Str), [("NoHook" : Str), ("Refused" : Str), ("ValueError" : Str)])]
abbrev tbl : Str → Str → Option Bool := tblOf cl
def top (i : Nat) : Stmt := PySem.Challenge.pw_nestsay_k86_a_yard_laid_anew.main.body.getD i (.Pass ⟨0, 0, 0, 0⟩)
abbrev s__law_pool : Stmt := top 48
abbrev s__law_take : Stmt := top 49
abbrev s__law_one : Stmt := top 50
abbrev s__law_mixed : Stmt := top 51
abbrev s__law_chain : Stmt := top 58
abbrev s__law_grown : Stmt := top 53
abbrev s__law_forest : Stmt := top 59
abbrev s__law_hung : Stmt := top 54
abbrev s__law_heard : Stmt := top 57
abbrev s_is_whole : Stmt := top 15
abbrev s_made_rooms : Stmt := top 16
abbrev s_is_place : Stmt := top 19
abbrev s_first_bad : Stmt := top 21
abbrev s_lies_in_itself : Stmt := top 20
abbrev s_first_ring : Stmt := top 22
abbrev s_made_forest : Stmt := top 23
abbrev s_around : Stmt := top 24
abbrev s_lay_row : Stmt := top 35
abbrev s_lay : Stmt := top 36
abbrev s_want_number : Stmt := top 32
abbrev s_hang_code : Stmt := top 33
abbrev s_shut_text : Stmt := top 30
abbrev s_framed : Stmt := top 34
abbrev s_place_word : Stmt := top 27
abbrev s_forest_words : Stmt := top 28
abbrev s_lay_text : Stmt := top 29
abbrev s_lay_code : Stmt := top 37
abbrev s__law_refusals_right : Stmt := top 64
abbrev s__law_climb : Stmt := top 52
abbrev s__law_laid : Stmt := top 61
abbrev s__law_spelled : Stmt := top 55
abbrev s__law_base : Stmt := top 56
abbrev s__law_done : Stmt := top 62
abbrev s_is_thing : Stmt := top 17
abbrev s_is_hook : Stmt := top 39
abbrev s_made_yard : Stmt := top 40
abbrev s_put : Stmt := top 25
abbrev s_lowered : Stmt := top 43
abbrev s_stepped : Stmt := top 44
abbrev s_all_stepped : Stmt := top 45
abbrev s_is_code_row : Stmt := top 41
abbrev s_made_code : Stmt := top 42
abbrev s_run : Stmt := top 46
abbrev s__law_both_right : Stmt := top 63
abbrev s__law_changed : Stmt := top 60
abbrev s_law : Stmt := top 65
end K86
set_option maxHeartbeats 0
namespace K86
open PySem PySem.Spec PyProof.Rows L2 DN
def dd__law_pool : He.DefD := ⟨("_law_pool", none), "_law_pool", "_law_pool", defArgs s__law_pool, defBody s__law_pool, defScope s__law_pool, [], []⟩
def dd__law_take : He.DefD := ⟨("_law_take", none), "_law_take", "_law_take", defArgs s__law_take, defBody s__law_take, defScope s__law_take, [], []⟩
def dd__law_one : He.DefD := ⟨("_law_one", none), "_law_one", "_law_one", defArgs s__law_one, defBody s__law_one, defScope s__law_one, [], []⟩
def dd__law_mixed : He.DefD := ⟨("_law_mixed", none), "_law_mixed", "_law_mixed", defArgs s__law_mixed, defBody s__law_mixed, defScope s__law_mixed, [], []⟩
def dd__law_chain : He.DefD := ⟨("_law_chain", none), "_law_chain", "_law_chain", defArgs s__law_chain, defBody s__law_chain, defScope s__law_chain, [], []⟩
def dd__law_grown : He.DefD := ⟨("_law_grown", none), "_law_grown", "_law_grown", defArgs s__law_grown, defBody s__law_grown, defScope s__law_grown, [], []⟩
def dd__law_forest : He.DefD := ⟨("_law_forest", none), "_law_forest", "_law_forest", defArgs s__law_forest, defBody s__law_forest, defScope s__law_forest, [], []⟩
def dd__law_hung : He.DefD := ⟨("_law_hung", none), "_law_hung", "_law_hung", defArgs s__law_hung, defBody s__law_hung, defScope s__law_hung, [], []⟩
def dd__law_heard : He.DefD := ⟨("_law_heard", none), "_law_heard", "_law_heard", defArgs s__law_heard, defBody s__law_heard, defScope s__law_heard, [], []⟩
def dd_is_whole : He.DefD := ⟨("is_whole", none), "is_whole", "is_whole", defArgs s_is_whole, defBody s_is_whole, defScope s_is_whole, [], []⟩
def dd_made_rooms : He.DefD := ⟨("made_rooms", none), "made_rooms", "made_rooms", defArgs s_made_rooms, defBody s_made_rooms, defScope s_made_rooms, [], []⟩
def dd_is_place : He.DefD := ⟨("is_place", none), "is_place", "is_place", defArgs s_is_place, defBody s_is_place, defScope s_is_place, [], []⟩
def dd_first_bad : He.DefD := ⟨("first_bad", none), "first_bad", "first_bad", defArgs s_first_bad, defBody s_first_bad, defScope s_first_bad, [], []⟩
def dd_lies_in_itself : He.DefD := ⟨("lies_in_itself", none), "lies_in_itself", "lies_in_itself", defArgs s_lies_in_itself, defBody s_lies_in_itself, defScope s_lies_in_itself, [], []⟩
def dd_first_ring : He.DefD := ⟨("first_ring", none), "first_ring", "first_ring", defArgs s_first_ring, defBody s_first_ring, defScope s_first_ring, [], []⟩
def dd_made_forest : He.DefD := ⟨("made_forest", none), "made_forest", "made_forest", defArgs s_made_forest, defBody s_made_forest, defScope s_made_forest, [], []⟩
def dd_around : He.DefD := ⟨("around", none), "around", "around", defArgs s_around, defBody s_around, defScope s_around, [], []⟩
def dd_lay_row : He.DefD := ⟨("lay_row", none), "lay_row", "lay_row", defArgs s_lay_row, defBody s_lay_row, defScope s_lay_row, [], []⟩
def dd_lay : He.DefD := ⟨("lay", none), "lay", "lay", defArgs s_lay, defBody s_lay, defScope s_lay, [], []⟩
def dd_want_number : He.DefD := ⟨("want_number", none), "want_number", "want_number", defArgs s_want_number, defBody s_want_number, defScope s_want_number, [], []⟩
def dd_hang_code : He.DefD := ⟨("hang_code", none), "hang_code", "hang_code", defArgs s_hang_code, defBody s_hang_code, defScope s_hang_code, [], []⟩
def dd_shut_text : He.DefD := ⟨("shut_text", none), "shut_text", "shut_text", defArgs s_shut_text, defBody s_shut_text, defScope s_shut_text, [], []⟩
def dd_framed : He.DefD := ⟨("framed", none), "framed", "framed", defArgs s_framed, defBody s_framed, defScope s_framed, [], []⟩
def dd_place_word : He.DefD := ⟨("place_word", none), "place_word", "place_word", defArgs s_place_word, defBody s_place_word, defScope s_place_word, [], []⟩
def dd_forest_words : He.DefD := ⟨("forest_words", none), "forest_words", "forest_words", defArgs s_forest_words, defBody s_forest_words, defScope s_forest_words, [], []⟩
def dd_lay_text : He.DefD := ⟨("lay_text", none), "lay_text", "lay_text", defArgs s_lay_text, defBody s_lay_text, defScope s_lay_text, [], []⟩
def dd_lay_code : He.DefD := ⟨("lay_code", none), "lay_code", "lay_code", defArgs s_lay_code, defBody s_lay_code, defScope s_lay_code, [], []⟩
def dd__law_refusals_right : He.DefD := ⟨("_law_refusals_right", none), "_law_refusals_right", "_law_refusals_right", defArgs s__law_refusals_right, defBody s__law_refusals_right, defScope s__law_refusals_right, [], []⟩
def dd__law_climb : He.DefD := ⟨("_law_climb", none), "_law_climb", "_law_climb", defArgs s__law_climb, defBody s__law_climb, defScope s__law_climb, [], []⟩
def dd__law_laid : He.DefD := ⟨("_law_laid", none), "_law_laid", "_law_laid", defArgs s__law_laid, defBody s__law_laid, defScope s__law_laid, [], []⟩
def dd__law_spelled : He.DefD := ⟨("_law_spelled", none), "_law_spelled", "_law_spelled", defArgs s__law_spelled, defBody s__law_spelled, defScope s__law_spelled, [], []⟩
def dd__law_base : He.DefD := ⟨("_law_base", none), "_law_base", "_law_base", defArgs s__law_base, defBody s__law_base, defScope s__law_base, [], []⟩
def dd__law_done : He.DefD := ⟨("_law_done", none), "_law_done", "_law_done", defArgs s__law_done, defBody s__law_done, defScope s__law_done, [], []⟩
def dd_is_thing : He.DefD := ⟨("is_thing", none), "is_thing", "is_thing", defArgs s_is_thing, defBody s_is_thing, defScope s_is_thing, [], []⟩
def dd_is_hook : He.DefD := ⟨("is_hook", none), "is_hook", "is_hook", defArgs s_is_hook, defBody s_is_hook, defScope s_is_hook, [], []⟩
def dd_made_yard : He.DefD := ⟨("made_yard", none), "made_yard", "made_yard", defArgs s_made_yard, defBody s_made_yard, defScope s_made_yard, [], []⟩
def dd_put : He.DefD := ⟨("put", none), "put", "put", defArgs s_put, defBody s_put, defScope s_put, [], []⟩
def dd_lowered : He.DefD := ⟨("lowered", none), "lowered", "lowered", defArgs s_lowered, defBody s_lowered, defScope s_lowered, [], []⟩
def dd_stepped : He.DefD := ⟨("stepped", none), "stepped", "stepped", defArgs s_stepped, defBody s_stepped, defScope s_stepped, [], []⟩
def dd_all_stepped : He.DefD := ⟨("all_stepped", none), "all_stepped", "all_stepped", defArgs s_all_stepped, defBody s_all_stepped, defScope s_all_stepped, [], []⟩
def dd_is_code_row : He.DefD := ⟨("is_code_row", none), "is_code_row", "is_code_row", defArgs s_is_code_row, defBody s_is_code_row, defScope s_is_code_row, [], []⟩
def dd_made_code : He.DefD := ⟨("made_code", none), "made_code", "made_code", defArgs s_made_code, defBody s_made_code, defScope s_made_code, [], []⟩
def dd_run : He.DefD := ⟨("run", none), "run", "run", defArgs s_run, defBody s_run, defScope s_run, [], []⟩
def dd__law_both_right : He.DefD := ⟨("_law_both_right", none), "_law_both_right", "_law_both_right", defArgs s__law_both_right, defBody s__law_both_right, defScope s__law_both_right, [], []⟩
def dd__law_changed : He.DefD := ⟨("_law_changed", none), "_law_changed", "_law_changed", defArgs s__law_changed, defBody s__law_changed, defScope s__law_changed, [], []⟩
def dd_law : He.DefD := ⟨("law", none), "law", "law", defArgs s_law, defBody s_law, defScope s_law, [], []⟩
def ts : List He.Tab := []
def fn : List He.DefD := [dd__law_pool, dd__law_take, dd__law_one, dd__law_mixed, dd__law_chain, dd__law_grown, dd__law_forest, dd__law_hung, dd__law_heard, dd_is_whole, dd_made_rooms, dd_is_place, dd_first_bad, dd_lies_in_itself, dd_first_ring, dd_made_forest, dd_around, dd_lay_row, dd_lay, dd_want_number, dd_hang_code, dd_shut_text, dd_framed, dd_place_word, dd_forest_words, dd_lay_text, dd_lay_code, dd__law_refusals_right, dd__law_climb, dd__law_laid, dd__law_spelled, dd__law_base, dd__law_done, dd_is_thing, dd_is_hook, dd_made_yard, dd_put, dd_lowered, dd_stepped, dd_all_stepped, dd_is_code_row, dd_made_code, dd_run, dd__law_both_right, dd__law_changed, dd_law]
def fa : List He.Fa := [.free "len", .free "int", .free "str", .free "tuple", .free "list", .free "max", .free "isinstance", .free "sorted", .free "range", .free "enumerate", .free "bool", .free "ValueError", .free "repr", .int "MOST_THINGS" 24, .int "MOST_ROOMS" 4, .glo "Refused", .glo "BadRooms", .glo "BadForest", .glo "Ring", .glo "Within", .glo "TooMany", .glo "BadNumber", .glo "BadYard", .glo "BadCode", .glo "Hooked", .glo "NoHook", .free "super", .glo "_law_pool", .glo "_law_take", .glo "_law_one", .glo "_law_mixed", .glo "_law_chain", .glo "_law_grown", .glo "_law_forest", .glo "_law_hung", .glo "_law_heard", .glo "is_whole", .glo "made_rooms", .glo "is_place", .glo "first_bad", .glo "lies_in_itself", .glo "first_ring", .glo "made_forest", .glo "around", .glo "lay_row", .glo "lay", .glo "want_number", .glo "hang_code", .glo "shut_text", .glo "framed", .glo "place_word", .glo "forest_words", .glo "lay_text", .glo "lay_code", .glo "_law_refusals_right", .glo "_law_climb", .glo "_law_laid", .glo "_law_spelled", .glo "_law_base", .glo "_law_done", .glo "is_thing", .glo "is_hook", .glo "made_yard", .glo "put", .glo "lowered", .glo "stepped", .glo "all_stepped", .glo "is_code_row", .glo "made_code", .glo "run", .glo "_law_both_right", .glo "_law_changed", .glo "law"]
abbrev PP : Program := PySem.Challenge.pw_nestsay_k86_a_yard_laid_anew
abbrev s_ini : Stmt := mth (top 1)
abbrev ini : Str × Option Str := ("Refused", some "__init__")
def tf : List (He.Defn × Str) := [(("_law_refusals_right", none), qlam "_law_refusals_right" (defScope s__law_refusals_right))]
def ex (K : PySem.W.Frag) : Bool := clsB K cl && initB PP K (He.fAd K ini) (He.ga K "Refused") "Refused.__init__" && excB K (He.fAd K ini) (He.ga K "Refused") (He.ga K "BadRooms") && excB K (He.fAd K ini) (He.ga K "Refused") (He.ga K "BadForest") && excB K (He.fAd K ini) (He.ga K "Refused") (He.ga K "Ring") && excB K (He.fAd K ini) (He.ga K "Refused") (He.ga K "Within") && excB K (He.fAd K ini) (He.ga K "Refused") (He.ga K "TooMany") && excB K (He.fAd K ini) (He.ga K "Refused") (He.ga K "BadNumber") && excB K (He.fAd K ini) (He.ga K "Refused") (He.ga K "BadYard") && excB K (He.fAd K ini) (He.ga K "Refused") (He.ga K "BadCode") && excB K (He.fAd K ini) (He.ga K "Refused") (He.ga K "Hooked") && excB K (He.fAd K ini) (He.ga K "Refused") (He.ga K "NoHook") && tfB K tf
abbrev R : PySem.W.OpenRow := PySem.W.OpenLaw.row PySem.Challenge.rw_nestsay_k86_a_yard_laid_anew
def iv : IniW := some (("__init__" : Str), ("Refused.__init__" : Str), defArgs s_ini, FuncBody.stmts (defBody s_ini), defScope s_ini, mainGlobals, [("__class__" : Str)], builtinsNs)
abbrev hk : PySem.W.Hook := hookF 5 fa fn ts (tf.map (·.1)) ex ini iv
def ob (s : PySem.W.SharedT) : hk.α := obsE 5 fa fn ts (tf.map (·.1)) ex ini (HandSHeadRun.getT s)
def loose : List Str := [("Refused" : Str), ("BadRooms" : Str), ("BadForest" : Str), ("Ring" : Str), ("Within" : Str), ("TooMany" : Str), ("BadNumber" : Str), ("BadYard" : Str), ("BadCode" : Str), ("Hooked" : Str), ("NoHook" : Str), ("MOST_THINGS" : Str), ("MOST_ROOMS" : Str), ("is_whole" : Str), ("made_rooms" : Str), ("is_thing" : Str), ("is_place" : Str), ("lies_in_itself" : Str), ("first_bad" : Str), ("first_ring" : Str), ("made_forest" : Str), ("around" : Str), ("put" : Str), ("place_word" : Str), ("forest_words" : Str), ("lay_text" : Str), ("shut_text" : Str), ("want_number" : Str), ("hang_code" : Str), ("framed" : Str), ("lay_row" : Str), ("lay" : Str), ("lay_code" : Str), ("is_hook" : Str), ("made_yard" : Str), ("is_code_row" : Str), ("made_code" : Str), ("lowered" : Str), ("stepped" : Str), ("all_stepped" : Str), ("run" : Str), ("_law_pool" : Str), ("_law_take" : Str), ("_law_one" : Str), ("_law_mixed" : Str), ("_law_climb" : Str), ("_law_grown" : Str), ("_law_hung" : Str), ("_law_spelled" : Str), ("_law_base" : Str), ("_law_heard" : Str), ("_law_chain" : Str), ("_law_forest" : Str), ("_law_changed" : Str), ("_law_laid" : Str), ("_law_done" : Str), ("_law_both_right" : Str), ("_law_refusals_right" : Str)]
theorem run (w : World) : HandSHeadRun.RunEq R (PySem.W.view R.prog [65]) hk ob 7000 loose w := by
  intro os
  kernel_rfl
end K86
set_option maxHeartbeats 2000000
namespace DN
open PySem PySem.Spec PyProof.Rows L2
section
variable {P : Program} {w : World} {K : PySem.W.Frag} {mg : Str → Option Value} {base : Heap} {tb : TBL} {k : Nat} {f : Addr} {fd : FuncData} {ps N : List Str} {x qual : Str} {params : Arguments} {body : List Stmt} {scope : PySem.Scope} {g : DS} {dv : List V} {kw : List (Str × V)}
theorem fn_okN (F : FunD K x qual params body scope dv kw f fd) (S : FnScope N ps scope)
    (hb : ∀ (T : TR) (_ : Tok tb T) (cdv : Value) (A : Around) (outer : List Env) (s : Shared) (H : Hp) (E : XK), RoomG k (A.deeper (envOfC qual scope s.heap.objs.size f cdv)) → (cxOf (L2N.CX P w) P w K mg base N qual scope f cdv A outer s H E).A.units + 65 < cLine → (L2N.Takes (cxOf (L2N.CX P w) P w K mg base N qual scope f cdv A outer s H E) fun cls d _ H => E cls d H) → Lets (cxOf (L2N.CX P w) P w K mg base N qual scope f cdv A outer s H E) E → PassesOwn (model P w) (cxOf (L2N.CX P w) P w K mg base N qual scope f cdv A outer s H E).A (cxOf (L2N.CX P w) P w K mg base N qual scope f cdv A outer s H E).env (cxOf (L2N.CX P w) P w K mg base N qual scope f cdv A outer s H E).xe → ESs (cxOf (L2N.CX P w) P w K mg base N qual scope f cdv A outer s H E) T E body g) :
    FnD P w K mg base tb (k + 1) f fd ps (dFn ps.length N.length g) :=
  fn_ok F S fun T hT cdv A outer s H E hr => by
    have tk := L2N.takes_of (X := cxOf (L2N.CX P w) P w K mg base N qual scope f cdv A outer s H E) rfl rfl rfl rfl
    exact hb T hT cdv A outer s H E hr (hu_room hr) tk (lets_def tk) (passes_of rfl)
theorem fn_okKN (F : FunD K x qual params body scope dv kw f fd) (S : FnScope N ps scope)
    (hb : ∀ (T : TR) (_ : Tok tb T) (cdv : Value) (A : Around) (outer : List Env) (s : Shared) (H : Hp) (E : XK), RoomG k (A.deeper (envOfC qual scope s.heap.objs.size f cdv)) → (cxOf (L2N.CX P w) P w K mg base N qual scope f cdv A outer s H E).A.units + 65 < cLine → (L2N.Takes (cxOf (L2N.CX P w) P w K mg base N qual scope f cdv A outer s H E) fun cls d _ H => E cls d H) → Lets (cxOf (L2N.CX P w) P w K mg base N qual scope f cdv A outer s H E) E → PassesOwn (model P w) (cxOf (L2N.CX P w) P w K mg base N qual scope f cdv A outer s H E).A (cxOf (L2N.CX P w) P w K mg base N qual scope f cdv A outer s H E).env (cxOf (L2N.CX P w) P w K mg base N qual scope f cdv A outer s H E).xe → ESs (cxOf (L2N.CX P w) P w K mg base N qual scope f cdv A outer s H E) T E body g) :
    FnD P w K mg base tb (k + 1) f fd ps (dFnK ps.length N.length g) :=
  fn_okK F S fun T hT cdv A outer s H E hr => by
    have tk := L2N.takes_of (X := cxOf (L2N.CX P w) P w K mg base N qual scope f cdv A outer s H E) rfl rfl rfl rfl
    exact hb T hT cdv A outer s H E hr (hu_room hr) tk (lets_def tk) (passes_of rfl)
end
abbrev FunS (K : PySem.W.Frag) (x qual : Str) (s : Stmt) (f : Addr) (fd : FuncData) : Prop := FunD K x qual (defArgs s) (defBody s) (defScope s) [] [] f fd
abbrev TBs (cs : List (Addr × Addr)) (base : Heap) (mg : Str → Option Value) : Prop := ∀ p ∈ cs, LamX.TabB base mg p.1 p.2
end DN
set_option maxHeartbeats 4000000
namespace L2
open PySem PySem.Spec PyProof.Rows
section
variable {prog : Program} {w : World} {A : Around} {R : Result → Shared → Prop} {s : Shared} {kx vx t0 i0 : Expr} {gs : List Comprehension} {scope : Scope} {pos : Pos} {j : Nat} {ifs0 : List Expr} {it acc : Value} {env : Env} {bs : Sem Unit}
end
section
variable {Y : Cx} {pins : List (Addr × Obj)} {s : Shared} {σ : St} {H : Hp} {kx vx tg iter : Expr} {ifs : List Expr} {gs : List Comprehension} {scope : Scope} {pos : Pos} {j : Nat} {g : TG} {tt : TT} {B : St → Hp → (Hp → Prop) → Prop} {vs : List Nat} {bs : Sem Unit} {D : Addr}
end
section
variable {X : Cx}
def Dct0 (o : HO) : Prop := o = .dK [] ∨ o = .dT []
theorem Dct0.ok {o : HO} (h : Dct0 o) {P : Program} {w : World} {H : Hp} (hp : Heap) (hb : sysModules < hp.objs.size) : ObjOk P w H (hp.push { cls := .type "dict", data := .dict #[] }) hp.objs.size o := by
  rcases h with rfl | rfl
  · exact dk_empty hp hb
  · exact dt_empty hp hb
end
end L2
namespace DN
open PySem PySem.Spec PyProof.Rows L2
def dcL (t : DT) (c : DB) (b : AE → M Unit) (okS : Store → Bool) (σ : AE) : List PV → M Unit
  | [], st => if okS st then .ok () st else .fail
  | p :: r, st => if okS st then (noX (t p σ st)).bind fun σ' st => (noX (c σ' st)).bind fun k st =>
      if k then (b σ' st).bind fun _ st => dcL t c b okS σ r st else dcL t c b okS σ r st
    else .fail
def isDc (n : Nat) (st : Store) : Bool := match st[n]? with
  | some (.dK _) => true
  | some (.dT _) => true
  | _ => false
def dcP (k v : DE) (n : Nat) : AE → M Unit := fun σ st => (noX (k σ st)).bind fun x st => (noX (v σ st)).bind fun y st => if isDc n st = true then noX (pSet (.ref n) x y st) else .fail
def dcS (s : DI) (t : DT) (c : DB) (w : List Nat) (b : AE → M Unit) : AE → M Unit := fun σ st => (noX (s σ st)).bind fun r st => dcL t c b r.2 (wipeA σ w) r.1 st
def dDc (o : SO) (s : DI) (t : DT) (c : DB) (b : Nat → AE → M Unit) (w : List Nat) : DE := fun σ st => (s σ st).bind fun r st =>
  (dcL t c (b st.length) r.2 (wipeA σ w) r.1 (st ++ [o])).bind fun _ st' => .ok (.ref st.length) st'
section
variable {X : Cx} {T : TR} {E : XK} {ρ : List Addr} {H : Hp} {σ : St} {aσ : AE} {st : Store}
inductive Emp : SO → HO → Prop where
  | k : Emp (.dK []) (.dK [])
  | t : Emp (.dT []) (.dT [])
theorem Emp.ct {o : SO} {u : HO} (h : Emp o u) : Dct0 u := by
  cases h
  · exact .inl rfl
  · exact .inr rfl
variable {kx vx tg iter tg1 iter1 : Expr} {ifs ifs1 : List Expr} {scope : Scope} {own : List (Str × Nat)} {pos : Pos} {src src1 : DI} {t t1 : DT} {c c1 : DB} {k v : DE}
end
end DN
set_option maxHeartbeats 2000000
namespace DN
open PySem PySem.Spec PyProof.Rows L2
def qTupRg (p : PV) : M PV := fun st => match p with
  | .int n => if 0 ≤ n ∧ n ≤ 1000000 then .ok (.tup (rgP 0 n)) st else .fail
  | _ => .fail
def qLstRg (p : PV) : M PV := fun st => match p with
  | .int n => if 0 ≤ n ∧ n ≤ 1000000 then .ok (.lst (rgP 0 n)) st else .fail
  | _ => .fail
def qLstRgR (p : PV) : M PV := fun st => match p with
  | .int n => if 0 ≤ n ∧ n ≤ 1000000 then .ok (.ref st.length) (st ++ [.lst (rgP 0 n)]) else .fail
  | _ => .fail
def pAddR (x y : PV) : M PV := fun st => match asL x st, asL y st with
  | some l, some m => if l.length + m.length ≤ SZ then .ok (.ref st.length) (st ++ [.lst (l ++ m)]) else .fail
  | _, _ => .fail
section
variable {X : Cx} {T : TR} {E : XK} {G : DG} {ρ : List Addr} {H : Hp} {σ : St} {aσ : AE} {st : Store} {a : Expr} {f : DE} {p p2 pos pos2 : Pos}
end
end DN
set_option maxHeartbeats 4000000
namespace DN
open PySem PySem.Spec PyProof.Rows L2
mutual
def noF : PV → Bool
  | .fnv _ => false
  | .err _ w => noF w
  | .tup l => noFs l
  | .ftp l => noFs l
  | .lst l => noFs l
  | .scr l => noFs l
  | .dK _ l => noFs l
  | .dT _ l => noFs l
  | .ref _ => true
  | .non => true
  | .bl _ => true
  | .int _ => true
  | .str _ => true
  | .con _ => true
  | .ty _ => true
def noFs : List PV → Bool
  | [] => true
  | p :: ps => noF p && noFs ps
end
def noFo : SO → Bool
  | .lst l => noFs l
  | .dK es => noFs (es.map (·.2))
  | .dT es => noFs (es.map (·.2))
  | .ins _ fs => noFs (fs.map (·.2))
abbrev TR.lm (T : TR) (L : Lm) : TR := ⟨T.tabs, T.res, T.err, some L⟩
section
variable {K : PySem.W.Frag} {mg : Str → Option Value} {T : TR} {ρ ρ' : List Addr} {H H' : Hp} {L : Lm} {st st' : Store}
mutual
theorem noF_of (h0 : T.lam = none) : ∀ {p : PV} {v : V}, Rl ⟨K, mg, T⟩ ρ H p v → noF p = true
  | _, _, .non => by simp only [noF]
  | _, _, .bl b => by simp only [noF]
  | _, _, .int i => by simp only [noF]
  | _, _, .str x => by simp only [noF]
  | _, _, .ty n => by simp only [noF]
  | _, _, .tup h r => by simp only [noF]; exact noFs_of h0 r
  | _, _, .ftp h r => by simp only [noF]; exact noFs_of h0 r
  | _, _, .lst h r => by simp only [noF]; exact noFs_of h0 r
  | _, _, .dK h n k r => by simp only [noF]; exact noFs_of h0 r
  | _, _, .dT h n k r => by simp only [noF]; exact noFs_of h0 r
  | _, _, .ref h => by simp only [noF]
  | _, _, .con h => by simp only [noF]
  | _, _, .scr h r => by simp only [noF]; exact noFs_of h0 r
  | _, _, .err h2 h n r => by simp only [noF]; exact noF_of h0 r
  | _, _, .fnv h2 h r => by rw [show T.lam = _ from h2] at h0; cases h0
theorem noFs_of (h0 : T.lam = none) : ∀ {ps : List PV} {vs : List V}, RlAll ⟨K, mg, T⟩ ρ H ps vs → noFs ps = true
  | _, _, .nil => by simp only [noFs]
  | _, _, .cons r t => by simp only [noFs, noF_of h0 r, noFs_of h0 t, Bool.and_self]
end
mutual
theorem Rl.unlm : ∀ {p : PV} {v : V}, noF p = true → Rl ⟨K, mg, T.lm L⟩ ρ H p v → Rl ⟨K, mg, T⟩ ρ H p v
  | _, _, _, .non => .non
  | _, _, _, .bl b => .bl b
  | _, _, _, .int i => .int i
  | _, _, _, .str x => .str x
  | _, _, _, .ty n => .ty n
  | _, _, e, .tup h r => .tup h (RlAll.unlm (by simpa only [noF] using e) r)
  | _, _, e, .ftp h r => .ftp h (RlAll.unlm (by simpa only [noF] using e) r)
  | _, _, e, .lst h r => .lst h (RlAll.unlm (by simpa only [noF] using e) r)
  | _, _, e, .dK h n k r => .dK h n k (RlAll.unlm (by simpa only [noF] using e) r)
  | _, _, e, .dT h n k r => .dT h n k (RlAll.unlm (by simpa only [noF] using e) r)
  | _, _, _, .ref h => .ref h
  | _, _, _, .con h => .con h
  | _, _, e, .scr h r => .scr h (RlAll.unlm (by simpa only [noF] using e) r)
  | _, _, e, .err h2 h n r => .err h2 h n (Rl.unlm (by simpa only [noF] using e) r)
  | _, _, e, .fnv h2 h r => by simp only [noF] at e; cases e
theorem RlAll.unlm : ∀ {ps : List PV} {vs : List V}, noFs ps = true → RlAll ⟨K, mg, T.lm L⟩ ρ H ps vs → RlAll ⟨K, mg, T⟩ ρ H ps vs
  | _, _, _, .nil => .nil
  | _, _, e, .cons r t => by
    simp only [noFs, Bool.and_eq_true] at e
    exact .cons (Rl.unlm e.1 r) (RlAll.unlm e.2 t)
end
theorem RlO.unlm {o : SO} {a : Addr} (e : noFo o = true) (h : RlO ⟨K, mg, T.lm L⟩ ρ H o a) : RlO ⟨K, mg, T⟩ ρ H o a := by
  cases h with
  | lst h r => exact .lst h (r.unlm e)
  | dK h x r => exact .dK h x (r.unlm e)
  | dT h x r => exact .dT h x (r.unlm e)
  | ins c h x r => exact .ins c h x (r.unlm e)
theorem noFo_of (h0 : T.lam = none) {o : SO} {a : Addr} (h : RlO ⟨K, mg, T⟩ ρ H o a) : noFo o = true := by
  cases h with
  | lst h r => exact noFs_of h0 r
  | dK h x r => exact noFs_of h0 r
  | dT h x r => exact noFs_of h0 r
  | ins c h x r => exact noFs_of h0 r
theorem mv_lm (h0 : T.lam = none) : Mv T ρ H (T.lm L) ρ H := ⟨List.prefix_refl _, fun _ _ r o _ => ⟨r, o⟩, fun _ _ _ h => h, fun _ h => h, fun _ h => (by rw [h0] at h; cases h)⟩
theorem rls_lm (h0 : T.lam = none) (h : RlS ⟨K, mg, T⟩ ρ H st) : RlS ⟨K, mg, T.lm L⟩ ρ H st := ⟨h.len, h.nd, fun n o a h1 h2 => (h.at_ n o a h1 h2).mv (mv_lm h0) (fun _ z => z), h.tabs, h.res⟩
def samF (st st' : Store) : Prop := ∀ (n : Nat) (o : SO), st'[n]? = some o → st[n]? = some o ∨ noFo o = true
theorem rls_unlm (h0 : T.lam = none) (hS : RlS ⟨K, mg, T⟩ ρ H st) (s : samF st st') (h : RlS ⟨K, mg, T.lm L⟩ ρ' H' st') : RlS ⟨K, mg, T⟩ ρ' H' st' := ⟨h.len, h.nd, fun n o a h1 h2 => (h.at_ n o a h1 h2).unlm (by
    rcases s n o h1 with z | z
    · have hn : n < ρ.length := by rw [hS.len]; exact (List.getElem?_eq_some_iff.mp z).1
      exact noFo_of h0 (hS.at_ n o ρ[n] z (List.getElem?_eq_getElem hn))
    · exact z), h.tabs, h.res⟩
theorem ext_unlm (x : Ext (T.lm L) ρ H ρ' H') : Ext T ρ H ρ' H' := ⟨x.pre, x.keep, x.new, x.free, x.tups, x.rs⟩
open Classical in
noncomputable def unF (st : Store) (r : Res PV) : Res PV := match r with
  | .ok p st' => if noF p = true ∧ samF st st' then .ok p st' else .fail
  | .exc c w st' => if noF w = true ∧ samF st st' then .exc c w st' else .fail
  | .fail => .fail
theorem unF_post {E : XK} {Q : VK} {r : Res PV} (h0 : T.lam = none) (hS : RlS ⟨K, mg, T⟩ ρ H st) (h : Pst ⟨K, mg, T⟩ E ρ H (KV ⟨K, mg, T⟩ Q) (unF st r)) : Pst ⟨K, mg, T.lm L⟩ E ρ H (KV ⟨K, mg, T.lm L⟩ Q) r := by
  cases r with
  | ok p st' =>
    unfold unF at h
    dsimp only at h
    split at h
    · rename_i hc
      exact fun ρ' H' x s v r => h ρ' H' (ext_unlm x) (rls_unlm h0 hS hc.2 s) v (r.unlm hc.1)
    · exact h.elim
  | exc c w st' =>
    unfold unF at h
    dsimp only at h
    split at h
    · rename_i hc
      exact fun ρ' H' ca d v x s hm hd ho r => h ρ' H' ca d v (ext_unlm x) (rls_unlm h0 hS hc.2 s) hm hd ho (r.unlm hc.1)
    · exact h.elim
  | fail => exact h.elim
end
structure LamP (P : Program) (w : World) (K : PySem.W.Frag) (mg : Str → Option Value) (base : Heap) (tb : TBL) (k : Nat) (g : List PV → M PV) : Prop where
  at_ : ∀ L, tb.lam = some L → PySem.W.FnAt L.a base
  run : ∀ L, tb.lam = some L → ∀ (A : Around) (outer : List Env) (s : Shared) (H : Hp) (us : List Value) (vs : List V) (Q : VK) (E : XK) (T : TR) (ρ : List Addr) (ps cs : List PV) (st : Store), RoomG k A → Env0 P w K mg base A outer s H → Vals vs us →
    Tok tb T → RlS ⟨K, mg, T⟩ ρ H st → H L.c = some (LamX.CodeO L.c L.q) → RlAll ⟨K, mg, T⟩ ρ H ps vs → RlAll ⟨K, mg, T⟩ ρ H cs L.vs → Pst ⟨K, mg, T⟩ E ρ H (KV ⟨K, mg, T⟩ Q) (g (ps ++ cs) st) →
    codeAny (model P w) A (.call (.ref L.a) ⟨us, []⟩) (CR (L2N.CX P w) outer P w H s Q E) s
def dAsk (g : List PV → M PV) (i : Nat) (fs : DA) : DE := fun σ st => match σ[i]? with
  | some (some (.fnv cs)) => (fs σ st).bind fun ps st => g (ps ++ cs) st
  | _ => .fail
section
variable {X : Cx} {T : TR} {E : XK} {tb : TBL} {k i : Nat} {g : List PV → M PV} {x : Str} {e : Expr} {es : List Expr} {fs : DA} {p pos : Pos}
theorem ev_ask0 (LP : LamP X.prog X.w X.K X.mg X.base tb k g) (hr : RoomG k X.A) (hT : Tok tb T) (hx : Lets X E) (hN : X.N[i]? = some x) (hv : Vis X.env.scope x)
    (hd : (x == ("__debug__" : Str)) = false := by decide) (hcd : (x == ("__classdict__" : Str)) = false := by decide) : EV X T E (.Call (.Name x p) [] [] pos) (dAsk g i dA0) := by
  constructor
  intro pins s σ H Q I q
  obtain ⟨ρ, aσ, st, hE, hS, h⟩ := q
  unfold dAsk at h
  split at h
  · rename_i cs hi
    obtain ⟨v, e1, rl⟩ := hE.at_ i _ hi
    cases rl with
    | @fnv L l h1 h2 h3 =>
      have hL : tb.lam = some L := by rw [← hT.2.2]; exact h1
      apply wpAny_Call_Name_kw
      refine thn ((pe_var (pos := p) (i := i) hN hv hd hcd).run pins s σ H (fun v H1 => v = .ref L.a ∧ H1 = H) I ⟨.ref L.a, e1, rfl, rfl⟩) fun u s1 z => ?_
      obtain ⟨v, H1, I1, rv, ev, eH⟩ := z
      subst ev eH
      have eu : u = Value.ref L.a := rv
      subst eu
      have fa : PySem.W.FnAt L.a s1.heap := by
        obtain ⟨oc, od, fd, sl, z⟩ := LP.at_ L hL
        exact ⟨oc, od, fd, sl, (I1.bs _ _ z).1⟩
      have h' : Pst (gOf X T) E ρ H1 (KV (gOf X T) Q) (g ([] ++ cs) st) := h
      exact PySem.W.callWith_F0 fa (call_back hx I1 (LP.run L hL X.A X.stack s1 H1 [] [] Q E T ρ [] cs st hr I1.env0 .nil hT hS h2 .nil h3 h'))
  · exact h.elim
end
end DN
namespace DN
open PySem PySem.Spec PyProof.Rows L2 NdefX
noncomputable def dLamF (n m N : Nat) (f : DE) (qs : List PV) : M PV := fun st => if qs.length = n + m then gcR st (f (qs.map some ++ List.replicate (N - (n + m)) none) st) else .fail
abbrev lamNF (q : Str) (params : Arguments) (scope : Scope) (cl : List (Str × Addr)) (c : Addr) : NF := ⟨"<lambda>", q, params, [], scope, cl, c⟩
section
variable {P : Program} {w : World} {K : PySem.W.Frag} {mg : Str → Option Value} {base : Heap} {tb : TBL} {L : Lm} {N ps fr : List Str} {scope : Scope} {params : Arguments} {body : Expr} {cl : List (Str × Addr)} {pm ctv : Value} {k : Nat} {fb : DE}
theorem lamP_of (S : NScope N ps fr scope) (hL : tb.lam = some L) (ho : base.get? L.a = some (PySem.W.kla_obj "<lambda>" L.q params body scope cl pm L.c ctv)) (C : CellsAt cl fr (L.vs.map some) base fun _ => none)
    (hbind : ∀ us : List Value, us.length = ps.length → bindArgs (PySem.W.kla_fn "<lambda>" L.q params body scope cl pm (.ref L.c) ctv) ⟨us, []⟩ = pure (ps.zip us))
    (hb : ∀ (T : TR) (_ : Tok tb T) (A : Around) (outer : List Env) (s : Shared) (H : Hp) (E : XK), RoomG k (A.deeper (envF (lamNF L.q params scope cl L.c) L.a s.heap.objs.size)) → EV (ncx (L2N.CX P w) P w K mg base N (lamNF L.q params scope cl L.c) L.a A outer s H E) T E body fb) :
    LamP P w K mg base tb (k + 1) (dLamF ps.length fr.length N.length fb) where
  at_ := fun L' e => by
    rw [hL] at e
    cases e
    exact ⟨_, _, _, _, ho⟩
  run := by
    intro L' e A outer s H us vs Q E T ρ qs cs st hr e0 rv hT hS hc rq rc h
    rw [hL] at e
    cases e
    unfold dLamF at h
    split at h
    · rename_i hn
      have cl1 : cs.length = fr.length := by rw [rc.length]; have := C.len; simpa using this
      have ql : qs.length = ps.length := by rw [List.length_append] at hn; omega
      have vl : vs.length = ps.length := by rw [← rq.length]; exact ql
      have at_ : ∀ b o, base.get? b = some o → s.heap.get? b = some o := fun b o z => (e0.bs b o z).1
      have lim : s.heap.NoLimit := e0.mod.nolimit.keeps at_
      have cells : CellsAt cl fr (L.vs.map some) s.heap H := by
        refine ⟨C.len, fun y c e => ?_, C.inj, fun i y e => ?_⟩
        · obtain ⟨_, v, o, h1, h2⟩ := C.all y c e
          exact ⟨(e0.bs c o h1).2, v, o, at_ c o h1, h2⟩
        · obtain ⟨c, h1, h2⟩ := C.has i y e
          refine ⟨c, h1, fun v hv => ?_⟩
          obtain ⟨u, r, o, z1, z2⟩ := h2 v hv
          exact ⟨u, r, o, at_ c o z1, z2⟩
      apply PySem.W.kla_callFunE hr.room.depth (at_ _ _ ho) rfl S.co S.gen rfl (codeO_at e0.hok hc)
      rw [hbind us (by rw [← rv.length]; exact vl)]
      refine wpAny_pure (wpAny_newFunctionEnv S.nocell (fun ⟨n, _⟩ hy => S.par n (List.of_mem_zip hy).1) (fun h₁ hns hsb => ⟨lim.fresh _ hsb, ?_⟩) S.kind)
      show codeAny _ _ (.expr body (envF (lamNF L.q params scope cl L.c) L.a s.heap.objs.size)) _ _
      have keep : ∀ b o, s.heap.get? b = some o → h₁.get? b = some o := fun b o z => hsb.extBut b o (Nat.ne_of_lt (Heap.lt_size z)) (Heap.get?_push_of_some _ z)
      have J := inv_startN (CX := L2N.CX P w) (P := P) (w := w) (K := K) (mg := mg) (base := base) (N := N) (F := lamNF L.q params scope cl L.c) (f := L.a) (E := E) (tk := s.toks + (ps.zip us).length) S hr.room.hd e0 vl rv cells hns keep
      have env : RlE ⟨K, mg, T⟩ ρ H ((qs ++ cs).map some ++ List.replicate (N.length - (ps.length + fr.length)) none) (startF N vs (L.vs.map some)) := by
        have z := rlE_start (N := N) (ps := ps ++ fr) (rq.append rc) (by rw [List.length_append, List.length_append, ql, cl1])
        rw [List.length_append] at z
        have e : startF N vs (L.vs.map some) = L2.start N (vs ++ L.vs) := by
          unfold startF L2.start
          rw [List.map_append, List.append_assoc, List.length_map, List.length_append, Nat.sub_sub]
        rw [e]
        exact z
      apply PySem.W.kla_codeExpr
      refine wpAny_mono ((hb T hT A outer s H E ⟨hr.room.deeper _, hr.gd⟩).run [] _ _ H Q J ⟨ρ, _, st, env, hS, gc_ok hS h⟩) (fun v s' z => ?_) fun _ _ z => z
      obtain ⟨v', H', J', r', q⟩ := z
      exact ⟨v', H', J'.os, J'.bare, J'.base, J'.hok, r', q⟩
    · exact h.elim
end
section
variable {X : Cx} {pins : List (Addr × Obj)} {σ : L2.St} {H : Hp} {s : Shared}
theorem funFrames_of {h b b' : Heap} : ∀ {l : List Env}, h.FunFrames b l → (∀ a ∈ frs l, b'.get? a = none) → h.FunFrames b' l
  | [], _, _ => trivial
  | env :: l, ⟨h1, ⟨a, o, e1, e2, e3, e4⟩, h2⟩, hn =>
    ⟨h1, ⟨a, o, e1, hn a (by simp [frs, e1]), e3, e4⟩, funFrames_of h2 fun a' m => hn a' (by
      simp only [frs, List.mem_filterMap] at m ⊢
      obtain ⟨x, m1, m2⟩ := m
      exact ⟨x, List.mem_cons_of_mem _ m1, m2⟩)⟩
theorem rebase (I : Inv X pins σ H s) : ∃ b' : Heap, (∀ b o, X.base.get? b = some o → b'.get? b = some o) ∧ (∀ b o, s.heap.get? b = some o → H b = none → b ∉ frs X.stack → b'.get? b = some o) ∧ Env0 X.prog X.w X.K X.mg b' X.A X.stack s H := by
  let Hb : Hp := fun b => if b ∈ frs X.stack then some (.tbl #[]) else H b
  have big : ∀ b o, s.heap.get? b = some o → H b = none → b ∉ frs X.stack → (hidT s.heap Hb).get? b = some o := fun b o e n m => hidT_get e (by simp [Hb, m, n])
  have small : ∀ b o, (hidT s.heap Hb).get? b = some o → s.heap.get? b = some o ∧ H b = none ∧ b ∉ frs X.stack := fun b o e => by
    obtain ⟨h1, h2⟩ := of_hidT e
    by_cases m : b ∈ frs X.stack
    · simp [Hb, m] at h2
    · simp [Hb, m] at h2
      exact ⟨h1, h2, m⟩
  have out : ∀ b o, X.base.get? b = some o → b ∉ frs X.stack := fun b o e m => by
    have z := (I.stack.mem m).1
    rw [e] at z; cases z
  have more : ∀ b o, X.base.get? b = some o → (hidT s.heap Hb).get? b = some o := fun b o e => big b o (I.bs b o e).1 (I.bs b o e).2 (out b o e)
  have e0 := I.env0
  refine ⟨hidT s.heap Hb, more, big, e0.frames, ?_, fun b o e => ⟨(small b o e).1, (small b o e).2.1⟩, Nat.le_of_eq (hidT_size _ _), funFrames_of e0.funs fun a m => ?_, e0.frf, e0.hok, e0.bare⟩
  · obtain ⟨mb, b1, b2⟩ := e0.mod.blt
    exact ⟨e0.mod.kin.keeps more, e0.mod.glob.keeps more, ⟨mb, b1.keeps more, b2⟩, e0.mod.nolimit.keeps more⟩
  · cases q : (hidT s.heap Hb).get? a with
    | none => rfl
    | some o => exact absurd m (small a o q).2.2
theorem cell_out (I : Inv X pins σ H s) (hfn : ∀ x, X.fn x = true) {y : Str} {c : Addr} (e : X.env.cells.lookup y = some c) : c ∉ frs X.stack := fun m => by
  rcases List.mem_cons.mp (I.stkSub c m) with h | h
  · obtain ⟨m', ⟨o, es, ep, e1, e2, _⟩, _⟩ := I.loc
    obtain ⟨v, o', e3, e4⟩ := I.cell y c e
    rw [h, e1] at e3
    cases e3
    rw [e2] at e4
    cases e4
  · obtain ⟨_, o, e1, _⟩ := I.ok.funs.mem h
    exact Nat.lt_irrefl _ (Nat.lt_of_lt_of_le (Heap.lt_size e1) (I.ok.cab y c (hfn y) e))
end
def capsOf (σ : AE) : List Nat → Option (List PV)
  | [] => some []
  | j :: js => match σ[j]? with
    | some (some p) => (capsOf σ js).map (p :: ·)
    | _ => none
theorem caps_rl {G : DG} {ρ : List Addr} {H : Hp} {aσ : AE} {σ : St} (hE : RlE G ρ H aσ σ) : ∀ {js : List Nat} {cs : List PV}, capsOf aσ js = some cs → ∃ ws : List V, js.map (slotAt σ) = ws.map some ∧ RlAll G ρ H cs ws
  | [], cs, h => by
    simp only [capsOf, Option.some.injEq] at h
    subst h
    exact ⟨[], rfl, .nil⟩
  | j :: js, cs, h => by
    unfold capsOf at h
    split at h
    · rename_i p hp
      obtain ⟨cs', h1, rfl⟩ := Option.map_eq_some_iff.mp h
      obtain ⟨v, e, r⟩ := hE.at_ j p hp
      obtain ⟨ws, e2, r2⟩ := caps_rl hE h1
      exact ⟨v :: ws, by rw [List.map_cons, List.map_cons, slotAt_of e, e2], .cons r r2⟩
    · cases h
section
variable {X : Cx} {T : TR} {E : XK} {tb : List (Addr × Str)} {tabs : List (Addr × Addr)} {fx c P : Addr} {fd : FuncData} {pz : List Str} {D : (List PV → M PV) → List PV → M PV} {k j : Nat} {x : Str} {N ps fr : List Str} {js : List Nat} {scope : Scope} {params : Arguments} {body : Expr} {fb : DE}
structure LamS (X : Cx) (tb : List (Addr × Str)) (tabs : List (Addr × Addr)) (c P : Addr) (N ps fr : List Str) (js : List Nat) (scope : Scope) (params : Arguments) (body : Expr) (fb : DE) (j : Nat) : Prop where
  TB : ∀ p ∈ tabs, LamX.TabB X.base X.mg p.1 p.2
  code : X.env.code = .ref c
  cP : (c, P) ∈ tabs
  mT : (P, X.env.qual ++ "<lambda>") ∈ tb
  un : ∀ p ∈ tb, p.1 = P → p.2 = X.env.qual ++ "<lambda>"
  fn : ∀ x, X.fn x = true
  nd : ndefB X.env.scope scope fr = true
  S : NScope N ps fr scope
  js : js.map (fun j => X.N[j]?) = fr.map some
  df : defaultsOf params X.env = ([], [])
  bind : ∀ (q : Str) (cl : List (Str × Addr)) (pm cv ctv : Value) (us : List Value), us.length = ps.length → bindArgs (PySem.W.kla_fn "<lambda>" q params body scope cl pm cv ctv) ⟨us, []⟩ = pure (ps.zip us)
  body : ∀ (b : Heap) (_ : ∀ p ∈ tabs, LamX.TabB b X.mg p.1 p.2) (L : Lm) (cl : List (Str × Addr)) (T : TR) (_ : Tok ⟨tb, some L⟩ T) (A : Around) (outer : List Env) (s : Shared) (H : Hp) (E : XK), RoomG j (A.deeper (envF (lamNF L.q params scope cl L.c) L.a s.heap.objs.size)) →
    EV (ncx (L2N.CX X.prog X.w) X.prog X.w X.K X.mg b N (lamNF L.q params scope cl L.c) L.a A outer s H E) T E body fb
structure LamF (P : Program) (w : World) (K : PySem.W.Frag) (mg : Str → Option Value) (tb : List (Addr × Str)) (tabs : List (Addr × Addr)) (x : Str) (fx : Addr) (fd : FuncData) (pz : List Str) (D : (List PV → M PV) → List PV → M PV) (j k : Nat) : Prop where
  fn : ∀ (b : Heap) (_ : ∀ p ∈ tabs, LamX.TabB b mg p.1 p.2) (L : Lm) (g : List PV → M PV), LamP P w K mg b ⟨tb, some L⟩ (j + 1) g → FnD P w K mg b ⟨tb, some L⟩ k fx fd pz (D g)
  m : mg x = some (.ref fx)
  kp : PySem.W.keepIn K (.ref fx) = true
  b : Binds K fd pz []
noncomputable abbrev gLam (N ps fr : List Str) (fb : DE) : List PV → M PV := dLamF ps.length fr.length N.length fb
theorem tabB_keeps {b b' : Heap} {mg : Str → Option Value} {c P : Addr} (h : LamX.TabB b mg c P) (k : ∀ a o, b.get? a = some o → b'.get? a = some o) : LamX.TabB b' mg c P := ⟨h.code.keeps k, h.bm.keeps k, h.gP⟩
theorem lam_core {pins : List (Addr × Obj)} {σ : L2.St} {H : Hp} {s : Shared} {f c' : Addr} {pm ctv : Value} {us : List Value} {vs ws : List V} {cs qs : List PV} {st : Store} {ρ : List Addr} {Q : VK} (hT : Tok ⟨tb, none⟩ T) (hr : RoomG k X.A) (hx : Lets X E)
    (W : LamS X tb tabs c P N ps fr js scope params body fb j) (F : LamF X.prog X.w X.K X.mg tb tabs x fx fd pz D j k) (I : Inv X pins σ H s)
    (hf : s.heap.get? f = some (PySem.W.kla_obj "<lambda>" (X.env.qual ++ "<lambda>") params body scope (cloFrom X.env.cells scope.names []) pm c' ctv)) (hn : H f = none) (ho : f ∉ frs X.stack) (hc : H c' = some (LamX.CodeO c' (X.env.qual ++ "<lambda>")))
    (rv : Vals vs us) (hw : js.map (slotAt σ) = ws.map some) (hS : RlS (gOf X T) ρ H st) (rc : RlAll (gOf X T) ρ H cs ws) (rq : ∀ L : Lm, (Rl (gOf X (T.lm L)) ρ H (.fnv cs) (.ref f)) → RlAll (gOf X (T.lm L)) ρ H qs vs) (hl : qs.length = pz.length)
    (h : Pst (gOf X T) E ρ H (KV (gOf X T) Q) (unF st (D (gLam N ps fr fb) qs st))) : wpAny (model X.prog X.w) X.A (call (.ref fx) us) (EP X pins σ Q) X.xe s := by
  obtain ⟨b', h1, h2, e0⟩ := rebase I
  let L : Lm := ⟨f, c', X.env.qual ++ "<lambda>", ws⟩
  have h0 : T.lam = none := hT.2.2
  have TB : ∀ p ∈ tabs, LamX.TabB b' X.mg p.1 p.2 := fun p hp => tabB_keeps (W.TB p hp) h1
  have cp : Caps X (cloFrom X.env.cells scope.names []) fr js := Caps.made I.ok (ndef_free W.nd) (ndef_fr W.nd) W.js
  have C0 := cells_of I cp
  rw [hw] at C0
  have out : ∀ y a, (cloFrom X.env.cells scope.names []).lookup y = some a → a ∉ frs X.stack := fun y a e => cell_out I W.fn (cp.sub y a e)
  have C : CellsAt (cloFrom X.env.cells scope.names []) fr (L.vs.map some) b' fun _ => none := by
    refine ⟨C0.len, fun y a e => ?_, C0.inj, fun i y e => ?_⟩
    · obtain ⟨n, v, o, z1, z2⟩ := C0.all y a e
      exact ⟨rfl, v, o, h2 a o z1 n (out y a e), z2⟩
    · obtain ⟨a, z1, z2⟩ := C0.has i y e
      refine ⟨a, z1, fun v hv => ?_⟩
      obtain ⟨u, r, o, z3, z4⟩ := z2 v hv
      exact ⟨u, r, o, h2 a o z3 (C0.all y a z1).1 (out y a z1), z4⟩
  have LP : LamP X.prog X.w X.K X.mg b' ⟨tb, some L⟩ (j + 1) (gLam N ps fr fb) :=
    lamP_of (L := L) W.S rfl (h2 f _ hf hn ho) C (W.bind _ _ _ _ _) fun T' hT' A outer s H E hr' => W.body b' TB L _ T' hT' A outer s H E hr'
  have G := F.fn b' TB L _ LP
  have rL : Rl (gOf X (T.lm L)) ρ H (.fnv cs) (.ref f) := .fnv (L := L) rfl hc (rc.mv (mv_lm h0))
  have tok : Tok ⟨tb, some L⟩ (T.lm L) := ⟨hT.1, hT.2.1, rfl⟩
  apply call_back hx I
  have n : us.length = pz.length := by rw [← rv.length, ← (rq L rL).length, hl]
  have b := F.b s us I.kIn (by simpa using n)
  rw [List.append_nil] at b
  exact G.ok.run X.A X.stack s H _ us vs Q E hr e0 b rv ⟨T.lm L, ρ, qs, st, tok, rls_lm h0 hS, rq L rL, hl, unF_post h0 hS h⟩
noncomputable def dLam1 (D : (List PV → M PV) → List PV → M PV) (g : List PV → M PV) (js : List Nat) : DE := fun σ st => match capsOf σ js with
  | some cs => unF st (D g [.fnv cs] st)
  | none => .fail
noncomputable def dLam2 (D : (List PV → M PV) → List PV → M PV) (g : List PV → M PV) (js : List Nat) (e : DE) : DE := fun σ st => (e σ st).bind fun p st => match capsOf σ js with
  | some cs => unF st (D g [p, .fnv cs] st)
  | none => .fail
section
variable {p lpos pos : Pos} {e : Expr} {f : DE}
theorem lam_free (W : LamS X tb tabs c P N ps fr js scope params body fb j) (ok : X.Ok) : ∀ y ∈ scope.names, y.2 = .free → ∃ c, X.env.cells.lookup y.1 = some c := fun y hy e => (ndef_free W.nd y hy e).elim (fun z => ok.has _ (.inl z)) fun z => ok.has _ (.inr z)
theorem ev_lam1 (hT : Tok ⟨tb, none⟩ T) (hr : RoomG k X.A) (hx : Lets X E) (hg : Gl X x) (W : LamS X tb tabs c P N ps fr js scope params body fb j) (F0 : ∃ fx fd, LamF X.prog X.w X.K X.mg tb tabs x fx fd pz D j k) (hl : pz.length = 1)
    (hdb : (x == ("__debug__" : Str)) = false := by decide) : EV X T E (.Call (.Name x p) [.Lambda params body scope lpos] [] pos) (dLam1 D (gLam N ps fr fb) js) := by
  obtain ⟨fx, fd, F⟩ := F0
  constructor
  intro pins s σ H Q I q
  obtain ⟨ρ, aσ, st, hE, hS, h⟩ := q
  unfold dLam1 at h
  split at h
  · rename_i cs hcs
    apply wpAny_Call_Name_kw
    apply ld_glob I hg F.m ?_ hdb
    apply PySem.W.callWith_K (h₀ := X.base) I.ok.mod.kin F.kp ?_ (by rfl) (by rfl)
    show wpAny _ _ (spliced ((false, eval (.Lambda params body scope lpos) X.env) :: backTo pos (starEach [] X.env))) _ _ s
    apply Calls.spliced_cons
    have hTs : LamX.Tabs tb H := by have := hS.tabs; rw [show (gOf X T).T.tabs = tb from hT.2.1] at this; exact this
    refine LamX.lam_make2 I (W.TB _ W.cP) W.code W.mT W.un hTs W.df (lam_free W I.ok) fun f c' pm ctv H1 s' I1 eN T1 hf hfn hfr hco => ?_
    apply Calls.spliced_nil
    refine ⟨I1.kIn, ?_⟩
    have T1' : LamX.Tabs (gOf X T).T.tabs H1 := by rw [show (gOf X T).T.tabs = tb from hT.2.1]; exact T1
    have hE1 := hE.ext (G := gOf X T) (lam_ext eN)
    obtain ⟨ws, hw, rc⟩ := caps_rl hE1 hcs
    exact lam_core (us := [.ref f]) (vs := [.ref f]) hT hr hx W F I1 hf hfn hfr hco (.cons rfl .nil) hw (lam_rls (G := gOf X T) eN T1' hS) rc (fun L r => .cons r .nil) (by simp [hl]) (Pst.base (G := gOf X T) (lam_ext eN) h)
  · exact h.elim
end
end
end DN
set_option maxHeartbeats 2000000
namespace DN
open PySem PySem.Spec PyProof.Rows L2
def shOk (d : PyData) : Prop := SeqAt.shaped d = true ∧ d.showable = true ∧ d.shown.length ≤ SZ
open Classical in
noncomputable def qRepr (xs : List PV) : M PV := fun st => match xs with
  | [p] => (match toD p st with
    | some d => if shOk d then .ok (.str d.shown) st else .fail
    | none => .fail)
  | _ => .fail
section
variable {X : Cx} {T : TR} {E : XK} {G : DG} {e : Expr} {es : List Expr} {fs : DA} {p pos : Pos} {k : Nat}
theorem call_reprD (hu : X.A.units + 65 < cLine) (hg : X.A.guards = some []) : CallR X (.builtin "repr") fun xs H Q => ∃ v d, xs = [v] ∧ Dp X.K H v d ∧ shOk d ∧ Q (.str d.shown) H := by
  intro pins s σ H xs us Q I r h
  obtain ⟨v, d, rfl, dp, ⟨h1, h2, h3⟩, q⟩ := h
  obtain ⟨u, rfl, ru⟩ := vals1 r
  obtain ⟨as, rd⟩ := Dp.reads I d v u dp ru
  rw [← SZ_eq] at h3
  have hd : d.depth ≤ 64 := SeqAt.depth_of_shaped h1
  have nd : d.hasDict = false := PyData.hasDict_of_canLay d (SeqAt.canLay_of_shaped h1)
  have out : ∀ u (h' : Heap) (tk : Nat), (∀ b o, s.heap.get? b = some o → h'.get? b = some o) → EP X pins σ Q (.str d.shown u) { s with heap := h', toks := tk } := fun u h' tk k => ⟨.str d.shown, H, I.kept k, ⟨_, rfl⟩, q⟩
  cases rd with
  | none => exact PySem.P.repr_of_none (out _ s.heap _ fun _ _ e => e)
  | bool b => exact PySem.P.repr_of_bool (out _ s.heap _ fun _ _ e => e)
  | int i t => exact PySem.P.repr_of_int (by simpa [PyData.showable] using h2) (out _ s.heap _ fun _ _ e => e)
  | str x t => exact PySem.P.repr_of_str (out _ s.heap _ fun _ _ e => e) (by simpa only [PyData.shown] using h3)
  | list a b c d' => exact repr_of_reads' (.list a b c d') h2 (PyData.noDict_hsm nd) hg (by omega) (fun _ _ e => e) (fun h' u tk k => out u h' tk k) h3
  | tuple a b c d' => exact repr_of_reads' (.tuple a b c d') h2 (PyData.noDict_hsm nd) hg (by omega) (fun _ _ e => e) (fun h' u tk k => out u h' tk k) h3
  | dict _ _ _ _ _ => simp [PyData.hasDict] at nd
theorem ad_repr : AdqL G E (fun xs H Q => ∃ v d, xs = [v] ∧ Dp G.K H v d ∧ shOk d ∧ Q (.str d.shown) H) qRepr := fun ρ H st xs vs Q hS rs h => by
  unfold qRepr at h
  split at h
  · rename_i p
    split at h
    · rename_i d hd
      split at h
      · rename_i ok
        obtain ⟨v, rfl, r⟩ := all1 rs
        exact ⟨v, d, rfl, toD_dp hS hd r, ok, post_val h hS (.str _)⟩
      · exact h.elim
    · exact h.elim
  · exact h.elim
theorem ev_repr (hr : RoomG k X.A) (hg : Gl X "repr") (hm : X.mg "repr" = none) (ha : EA X T E (e :: es) fs) (hs : starEach (e :: es) X.env = (false, eval e X.env) :: starEach es X.env := by rfl) (hpl : (backTo pos (starEach es X.env)).any (·.1) = false := by rfl) : EV X T E (.Call (.Name "repr" p) (e :: es) [] pos) (dAl qRepr fs) :=
  ev_bi (call_reprD (by have := hr.room.un; omega) hr.gd) ad_repr hg hm boot_repr ha (by decide) (by decide) hs hpl
end
end DN
namespace DN
open PySem PySem.Spec PyProof.Rows L2
def bls? : List PV → Option (List Bool)
  | [] => some []
  | .bl b :: l => (bls? l).map (b :: ·)
  | _ => none
def itg? : List PV → Option (List Int)
  | [] => some []
  | .int b :: l => (itg? l).map (b :: ·)
  | _ => none
def qFold {α : Type} (f : List PV → Option α) (g : α → PV) (xs : List PV) : M PV := fun st => match xs with
  | [p] => (match asL p st with
    | some l => (match f l with
      | some a => .ok (g a) st
      | none => .fail)
    | none => .fail)
  | _ => .fail
def qAll : List PV → M PV := qFold bls? fun bs => .bl (bs.all id)
section
variable {X : Cx} {T : TR} {E : XK} {G : DG} {ρ : List Addr} {H : Hp} {e : Expr} {es : List Expr} {fs : DA} {p pos : Pos}
end
end DN
namespace DN
open PySem PySem.Spec PyProof.Rows L2
def zipP : List PV → List PV → List PV
  | a :: l, b :: m => .tup [a, b] :: zipP l m
  | _, _ => []
def zok (l : List PV) : Bool := l.all fun a => !isF [a]
open Classical in
noncomputable def srcZip (p q : PV) : M Src := fun st => match p, q with
  | .tup l, .tup m => if zok l = true then .ok (zipP l m, fun _ => true) st else .fail
  | p, q => (match asL p st, asL q st with
    | some l, some m => if zok l = true then .ok (zipP l m, fun st => decide (asL p st = some l ∧ asL q st = some m)) st else .fail
    | _, _ => .fail)
noncomputable def iZip2 (f : DA) : DI := fun σ st => (f σ st).bind fun ps st => match ps with
  | [p, q] => srcZip p q st
  | _ => .fail
section
variable {X : Cx} {T : TR} {E : XK} {G : DG} {ρ : List Addr} {H : Hp} {σ : St} {aσ : AE} {st : Store}
variable {tg a b e : Expr} {fa fb f : DE} {fs : DA} {pos p : Pos}
end
end DN
namespace DN
open PySem PySem.Spec PyProof.Rows L2
open Classical in
noncomputable def srcTL (p q : PV) : M Src := fun st => match p with
  | .tup l => (match asL q st with
    | some m => if zok l = true then .ok (zipP l m, fun st => decide (asL q st = some m)) st else .fail
    | none => .fail)
  | _ => .fail
noncomputable def iZipTL (f : DA) : DI := fun σ st => (f σ st).bind fun ps st => match ps with
  | [p, q] => srcTL p q st
  | _ => .fail
section
variable {X : Cx} {T : TR} {E : XK} {G : DG} {ρ : List Addr} {H : Hp} {σ : St} {aσ : AE} {st : Store}
variable {tg a b e : Expr} {fa fb f : DE} {fs : DA} {pos p : Pos}
end
end DN
namespace DN
open PySem PySem.Spec PyProof.Rows L2
def lcO (t : DT) (c : DB) (b : AE → M (List PV)) (okS : Store → Bool) (σ : AE) : List PV → M (List PV)
  | [], st => if okS st then .ok [] st else .fail
  | p :: r, st => if okS st then (noX (t p σ st)).bind fun σ' st => (noX (c σ' st)).bind fun k st =>
      if k then (b σ' st).bind fun v st => (lcO t c b okS σ r st).bind fun vs st => .ok (v ++ vs) st else lcO t c b okS σ r st
    else .fail
def lcB (s : DI) (t : DT) (c : DB) (e : DE) (w : List Nat) : AE → M (List PV) := fun σ st => (noX (s σ st)).bind fun r st => lcI t c e r.2 (wipeA σ w) r.1 st
def dCompL2 (s : DI) (t : DT) (c : DB) (s1 : DI) (t1 : DT) (c1 : DB) (e : DE) (w w1 : List Nat) (m : List PV → M PV) : DE := fun σ st => (s σ st).bind fun r st => (lcO t c (lcB s1 t1 c1 e w1) r.2 (wipeA σ w) r.1 st).bind fun vs st => m vs st
section
variable {X : Cx} {T : TR} {E : XK} {ρ ρ1 ρ4 : List Addr} {H H1 H4 : Hp} {σ σ2 : St} {aσ aσ2 : AE} {st st4 : Store} {D : Addr} {J1 : It} {l1 : List PV} {ok1 : Store → Bool}
variable {elt tg iter tg1 iter1 : Expr} {ifs ifs1 : List Expr} {scope : Scope} {own : List (Str × Nat)} {pos : Pos} {src src1 : DI} {t t1 : DT} {c c1 : DB} {e : DE} {w1 vs1 : List Nat} {vs : List PV} {acc : List V}
end
end DN
set_option maxHeartbeats 4000000
namespace DN
open PySem PySem.Spec PyProof.Rows L2
def sCpD (j k i : Nat) : DS := fun σ st => match σ[j]? with
  | some (some (.dT ks vs)) => if ks.Nodup ∧ ks.length = vs.length ∧ ks.length < SZ ∧ j ≠ k ∧ k < σ.length then .ok (.nx, σ.set i (some (.ref st.length))) (st ++ [.dT (ks.zip vs)]) else .fail
  | _ => .fail
section
variable {X : Cx} {T : TR} {E : XK} {ρ : List Addr} {H : Hp} {σ : St} {aσ : AE} {st : Store}
end
end DN
namespace DN
open PySem PySem.Spec PyProof.Rows L2 NdefX
section
variable {X : Cx} {T : TR} {E : XK} {tb : List (Addr × Str)} {tabs : List (Addr × Addr)} {c P : Addr} {k j : Nat} {x : Str} {N ps fr : List Str} {js : List Nat} {scope : Scope} {params : Arguments} {body : Expr} {fb : DE}
def bestAt (kf : Nat → Int) : Nat → Nat
  | 0 => 0
  | k + 1 => if kf (k + 1) < kf (bestAt kf k) then k + 1 else bestAt kf k
open Classical in
noncomputable def keysM (g : List PV → M PV) (cs : List PV) (st : Store) : List Int → Option (List Int)
  | [] => some []
  | a :: as => match g (.int a :: cs) st with
    | .ok (.int k) st' => if st' = st then (keysM g cs st as).map (k :: ·) else none
    | _ => none
noncomputable def dMinK (g : List PV → M PV) (js : List Nat) (f : DE) : DE := fun σ st => (f σ st).bind fun p st => match p, capsOf σ js with
  | .tup l, some cs => (match itg? l with
    | some (a :: as) => (match keysM g cs st (a :: as) with
      | some ks => .ok (.int ((a :: as).getD (bestAt (fun i => ks.getD i 0) as.length) 0)) st
      | none => .fail)
    | _ => .fail)
  | _, _ => .fail
end
end DN
set_option maxHeartbeats 2000000
namespace DN
open PySem PySem.Spec PyProof.Rows L2
section
variable {X : Cx} {T : TR} {E : XK} {G : DG} {ρ : List Addr} {H : Hp} {tg a : Expr} {fa : DE} {p pos : Pos}
variable {e : Expr} {es : List Expr} {fs : DA}
end
end DN
namespace DN
open PySem PySem.Spec PyProof.Rows L2
section
variable {prog : Program} {w : World} {A : Around} {E : Value → Shared → Prop} {s : Shared} {l : Addr} {its : List Value} {ns : List Int} {Q : Value → Shared → Prop}
end
section
variable {X : Cx} {T : TR} {E : XK} {G : DG} {ρ : List Addr} {H : Hp} {e : Expr} {es : List Expr} {fs : DA} {p pos : Pos}
def qSum2 (xs : List PV) : M PV := fun st => match xs with
  | [p] => (match asI p st with
    | some l => (match itg? l with
      | some a => .ok (.int a.sum) st
      | none => .fail)
    | none => .fail)
  | _ => .fail
end
end DN
namespace DN
open PySem PySem.Spec PyProof.Rows L2
abbrev EP := Str → PV → Store → Prop
abbrev EF : EP := fun _ _ _ => False
@[irreducible] def wpX {α : Type} (X : EP) (r : Res α) (Q : α → Store → Prop) : Prop := match r with
  | .ok a st => Q a st
  | .exc c w st => X c w st
  | .fail => False
@[simp] theorem B64_eq : B64 = 18446744073709551616 := rfl
@[simp] theorem B200_eq : B200 = 1606938044258990275541962092341162602522202993782792835301376 := rfl
@[simp] theorem SZ_lit : SZ = 16777216 := rfl
def cnd (b : Bool) (P Q : Prop) : Prop := (b = true → P) ∧ (b = false → Q)
@[simp] theorem cnd_true {P Q : Prop} : cnd true P Q = P := by simp [cnd]
@[simp] theorem cnd_false {P Q : Prop} : cnd false P Q = Q := by simp [cnd]
theorem cnd_pos {b : Bool} {P Q : Prop} (h : b = true) : cnd b P Q = P := by rw [h, cnd_true]
theorem cnd_neg {b : Bool} {P Q : Prop} (h : b = false) : cnd b P Q = Q := by rw [h, cnd_false]
@[simp] theorem cnd_not {b : Bool} {P Q : Prop} : cnd (!b) P Q = cnd b Q P := by cases b <;> simp
@[irreducible] def wpsX (X : EP) (s : Res (Fl × AE)) (N : AE → Store → Prop) (R : PV → Store → Prop) (B C : AE → Store → Prop) : Prop := match s with
  | .ok (.nx, σ) st => N σ st
  | .ok (.rt v, _) st => R v st
  | .ok (.bk, σ) st => B σ st
  | .ok (.ct, σ) st => C σ st
  | .exc c w st => X c w st
  | .fail => False
variable {Xp : EP}
def par2 (ps : List PV) (k : PV → PV → Prop) : Prop := match ps with
  | [p, q] => k p q
  | _ => False
def par3 (ps : List PV) (k : PV → PV → PV → Prop) : Prop := match ps with
  | [p, q, r] => k p q r
  | _ => False
@[simp] theorem par2_two {p q : PV} {k : PV → PV → Prop} : par2 [p, q] k = k p q := rfl
@[simp] theorem par3_three {p q r : PV} {k : PV → PV → PV → Prop} : par3 [p, q, r] k = k p q r := rfl
theorem nwF {α : Type} {Q : α → Store → Prop} (h : (wpX Xp) (.fail : Res α) Q) : False := by unfold wpX at h; exact h
theorem wp_exc {α : Type} {Q : α → Store → Prop} {c : Str} {w : PV} {st : Store} : (wpX Xp) (.exc c w st : Res α) Q = Xp c w st := by unfold wpX; rfl
section
variable {N : AE → Store → Prop} {R : PV → Store → Prop} {B C : AE → Store → Prop} {σ : AE} {st : Store} {v : PV}
theorem nwsF (h : (wpsX Xp) .fail N R B C) : False := by unfold wpsX at h; exact h
theorem wps_exc {c : Str} {w : PV} : (wpsX Xp) (.exc c w st) N R B C = Xp c w st := by unfold wpsX; rfl
theorem wps_nx : (wpsX Xp) (.ok (.nx, σ) st) N R B C = N σ st := by unfold wpsX; rfl
theorem wps_bk : (wpsX Xp) (.ok (.bk, σ) st) N R B C = B σ st := by unfold wpsX; rfl
theorem wps_ct : (wpsX Xp) (.ok (.ct, σ) st) N R B C = C σ st := by unfold wpsX; rfl
theorem wps_rt : (wpsX Xp) (.ok (.rt v, σ) st) N R B C = R v st := by unfold wpsX; rfl
end
section
variable {α β : Type} {Q Q' : α → Store → Prop} {st : Store} {σ : AE}
theorem wp_mono {r : Res α} (h : (wpX Xp) r Q) (i : ∀ a st, Q a st → Q' a st) : (wpX Xp) r Q' := by
  unfold wpX at h ⊢
  cases r with
  | ok a st => exact i _ _ h
  | exc _ _ _ => exact h
  | fail => exact h
theorem wp_ok_of {r : Res α} (h : wpX EF r Q) : ∃ a st, r = .ok a st ∧ Q a st := by
  unfold wpX at h
  cases r with
  | ok a st => exact ⟨a, st, rfl, h⟩
  | exc _ _ _ => exact h.elim
  | fail => exact h.elim
@[simp] theorem wp_ok {a : α} : (wpX Xp) (.ok a st) Q = Q a st := by unfold wpX; rfl
@[simp] theorem wp_fail : (wpX Xp) (.fail : Res α) Q = False := by unfold wpX; rfl
@[simp] theorem wp_bind {r : Res β} {k : β → Store → Res α} : (wpX Xp) (r.bind k) Q = (wpX Xp) r fun a st => (wpX Xp) (k a st) Q := by cases r <;> (unfold wpX; rfl)
@[simp] theorem wp_ite_fail {c : Prop} [Decidable c] {a : Res α} : (wpX Xp) (if c then a else .fail) Q = (c ∧ (wpX Xp) a Q) := by
  by_cases h : c <;> simp [h]
@[simp] theorem wp_ite_b {b : Bool} {x y : Res α} : (wpX Xp) (if b = true then x else y) Q = cnd b ((wpX Xp) x Q) ((wpX Xp) y Q) := by cases b <;> simp
end
section
variable {Q : PV → Store → Prop} {QB : Bool → Store → Prop} {QA : List PV → Store → Prop} {st : Store} {σ : AE} {f g h : DE} {c e : DB} {fs : DA}
@[simp] theorem wp_var {i : Nat} : (wpX Xp) (dVar i σ st) Q = ∃ v, σ[i]? = some (some v) ∧ Q v st := by
  unfold dVar
  cases q : σ[i]? with
  | none => simp
  | some o => cases o <;> simp
@[simp] theorem wp_c {v : PV} : (wpX Xp) (dC v σ st) Q = Q v st := by unfold wpX; rfl
@[simp] theorem wp_d1 {d : PV → M PV} : (wpX Xp) (d1 d f σ st) Q = (wpX Xp) (f σ st) fun x st => (wpX Xp) (d x st) Q := by simp [d1]
@[simp] theorem wp_d2 {d : PV → PV → M PV} : (wpX Xp) (d2 d f g σ st) Q = (wpX Xp) (f σ st) fun x st => (wpX Xp) (g σ st) fun y st => (wpX Xp) (d x y st) Q := by simp [d2]
@[simp] theorem wp_a0 : (wpX Xp) (dA0 σ st) QA = QA [] st := by unfold wpX; rfl
@[simp] theorem wp_ac : (wpX Xp) (dAc f fs σ st) QA = (wpX Xp) (f σ st) fun x st => (wpX Xp) (fs σ st) fun xs st => QA (x :: xs) st := by simp [dAc]
@[simp] theorem wp_al {d : List PV → M PV} : (wpX Xp) (dAl d fs σ st) Q = (wpX Xp) (fs σ st) fun xs st => (wpX Xp) (d xs st) Q := by simp [dAl]
@[simp] theorem wp_tB_bl {b : Bool} : (wpX Xp) (tB (.bl b) st) QB = QB b st := by unfold wpX; rfl
@[simp] theorem wp_bVal : (wpX Xp) (bVal f σ st) QB = (wpX Xp) (f σ st) fun p st => (wpX Xp) (tB p st) QB := by simp [bVal]
@[simp] theorem wp_bNot : (wpX Xp) (bNot c σ st) QB = (wpX Xp) (c σ st) fun b st => QB (!b) st := by simp [bNot]
@[simp] theorem wp_bAnd : (wpX Xp) (bAnd c e σ st) QB = (wpX Xp) (c σ st) fun b st => cnd b ((wpX Xp) (e σ st) QB) (QB false st) := by
  simp only [bAnd, wp_bind]
  congr 1; funext b st; cases b <;> simp
@[simp] theorem wp_bOr : (wpX Xp) (bOr c e σ st) QB = (wpX Xp) (c σ st) fun b st => cnd b (QB true st) ((wpX Xp) (e σ st) QB) := by
  simp only [bOr, wp_bind]
  congr 1; funext b st; cases b <;> simp
@[simp] theorem wp_bTruth : (wpX Xp) (bTruth f σ st) QB = (wpX Xp) (f σ st) fun p st => (wpX Xp) (pTruth p st) QB := by simp [bTruth]
@[simp] theorem wp_dIf : (wpX Xp) (dIf c f g σ st) Q = (wpX Xp) (c σ st) fun b st => cnd b ((wpX Xp) (f σ st) Q) ((wpX Xp) (g σ st) Q) := by
  simp only [dIf, wp_bind]
  congr 1; funext b st; cases b <;> simp
@[simp] theorem wp_dAnd : (wpX Xp) (dAnd f g σ st) Q = (wpX Xp) (f σ st) fun p st => (wpX Xp) (tB p st) fun b st => cnd b ((wpX Xp) (g σ st) Q) (Q (.bl false) st) := by
  simp only [dAnd, wp_bind]
  congr 1; funext p st; congr 1; funext b st; cases b <;> simp
@[simp] theorem wp_dOr : (wpX Xp) (dOr f g σ st) Q = (wpX Xp) (f σ st) fun p st => (wpX Xp) (tB p st) fun b st => cnd b (Q (.bl true) st) ((wpX Xp) (g σ st) Q) := by
  simp only [dOr, wp_bind]
  congr 1; funext p st; congr 1; funext b st; cases b <;> simp
@[simp] theorem wp_dNot : (wpX Xp) (dNot f σ st) Q = (wpX Xp) (f σ st) fun p st => (wpX Xp) (tB p st) fun b st => Q (.bl (!b)) st := by simp [dNot]
@[simp] theorem wp_chain {d d' : PV → PV → M PV} : (wpX Xp) (dChain d d' f g h σ st) Q = (wpX Xp) (f σ st) fun x st => (wpX Xp) (g σ st) fun y st => (wpX Xp) (d x y st) fun p st => (wpX Xp) (tB p st) fun k st => cnd k ((wpX Xp) (h σ st) fun z st => (wpX Xp) (d' y z st) Q) (Q (.bl false) st) := by
  simp only [dChain, wp_bind]
  congr 1; funext x st; congr 1; funext y st; congr 1; funext p st; congr 1; funext k st; cases k <;> simp
@[simp] theorem wp_addI {i j : Int} : (wpX Xp) (pAdd (.int i) (.int j) st) Q = Q (.int (i + j)) st := by unfold wpX; rfl
@[simp] theorem wp_subI {i j : Int} : (wpX Xp) (pSub (.int i) (.int j) st) Q = Q (.int (i - j)) st := by unfold wpX; rfl
@[simp] theorem wp_mulI {i j : Int} : (wpX Xp) (pMul (.int i) (.int j) st) Q = (((-B64 < i ∧ i < B64) ∨ (-B64 < j ∧ j < B64)) ∧ Q (.int (i * j)) st) := by simp [pMul]
@[simp] theorem wp_divI {i j : Int} : (wpX Xp) (pDiv (.int i) (.int j) st) Q = ((0 < j ∧ j < B200) ∧ Q (.int (i / j)) st) := by simp [pDiv]
@[simp] theorem wp_modI {i j : Int} : (wpX Xp) (pMod (.int i) (.int j) st) Q = (0 < j ∧ Q (.int (i % j)) st) := by simp [pMod]
@[simp] theorem wp_powI {i j : Int} : (wpX Xp) (pPow (.int i) (.int j) st) Q = ((0 ≤ j ∧ j ≤ 1000 ∧ -B64 < i ∧ i < B64) ∧ Q (.int (i ^ j.toNat)) st) := by simp [pPow]
@[simp] theorem wp_negI {i : Int} : (wpX Xp) (pNeg (.int i) st) Q = Q (.int (-i)) st := by unfold wpX; rfl
@[simp] theorem wp_ltI {f : Int → Int → Bool} {i j : Int} : (wpX Xp) (pLtI f (.int i) (.int j) st) Q = Q (.bl (f i j)) st := by unfold wpX; rfl
@[simp] theorem wp_eqII {i j : Int} : (wpX Xp) (pEq (.int i) (.int j) st) Q = Q (.bl (decide (i = j))) st := by unfold wpX; rfl
@[simp] theorem wp_neII {i j : Int} : (wpX Xp) (pNe (.int i) (.int j) st) Q = Q (.bl (!decide (i = j))) st := by unfold wpX; rfl
@[simp] theorem wp_eqSS {x y : Str} : (wpX Xp) (pEq (.str x) (.str y) st) Q = Q (.bl (decide (x = y))) st := by unfold wpX; rfl
@[simp] theorem wp_neSS {x y : Str} : (wpX Xp) (pNe (.str x) (.str y) st) Q = Q (.bl (!decide (x = y))) st := by unfold wpX; rfl
@[simp] theorem wp_isN {x : PV} : (wpX Xp) (pIs x .non st) Q = Q (.bl (isNon x)) st := by unfold wpX; rfl
@[simp] theorem wp_isNotN {x : PV} : (wpX Xp) (pIsNot x .non st) Q = Q (.bl (!isNon x)) st := by unfold wpX; rfl
@[simp] theorem isNon_non : isNon .non = true := rfl
@[simp] theorem isNon_tup {l} : isNon (.tup l) = false := rfl
@[simp] theorem isNon_int {l} : isNon (.int l) = false := rfl
@[simp] theorem isNon_bl {l} : isNon (.bl l) = false := rfl
@[simp] theorem isNon_str {l} : isNon (.str l) = false := rfl
@[simp] theorem isNon_lst {l} : isNon (.lst l) = false := rfl
@[simp] theorem wp_maxII {i j : Int} : (wpX Xp) (qMax [.int i, .int j] st) Q = Q (.int (if j > i then j else i)) st := by unfold wpX; rfl
@[simp] theorem wp_minII {i j : Int} : (wpX Xp) (qMin [.int i, .int j] st) Q = Q (.int (if j < i then j else i)) st := by unfold wpX; rfl
@[simp] theorem wp_intI {i : Int} : (wpX Xp) (qInt [.int i] st) Q = Q (.int i) st := by unfold wpX; rfl
@[simp] theorem wp_intB {b : Bool} : (wpX Xp) (qInt [.bl b] st) Q = Q (.int (if b = true then 1 else 0)) st := by unfold wpX; rfl
@[simp] theorem wp_lenT {l : List PV} : (wpX Xp) (qLen [.tup l] st) Q = Q (.int l.length) st := by unfold wpX; rfl
@[simp] theorem wp_lenL {l : List PV} : (wpX Xp) (qLen [.lst l] st) Q = Q (.int l.length) st := by unfold wpX; rfl
@[simp] theorem wp_lenS {l : List PV} : (wpX Xp) (qLen [.scr l] st) Q = Q (.int l.length) st := by unfold wpX; rfl
@[simp] theorem wp_tupT {l : List PV} : (wpX Xp) (qTup [.tup l] st) Q = Q (.tup l) st := by unfold wpX; rfl
@[simp] theorem wp_tupL {l : List PV} : (wpX Xp) (qTup [.lst l] st) Q = Q (.tup l) st := by unfold wpX; rfl
@[simp] theorem wp_lstL {l : List PV} : (wpX Xp) (qLst [.lst l] st) Q = Q (.lst l) st := by unfold wpX; rfl
@[simp] theorem wp_lstT {l : List PV} : (wpX Xp) (qLst [.tup l] st) Q = Q (.lst l) st := by unfold wpX; rfl
@[simp] theorem wp_lstRL {l : List PV} : (wpX Xp) (qLstR [.lst l] st) Q = Q (.ref st.length) (st ++ [.lst l]) := by unfold wpX; rfl
@[simp] theorem wp_lstRT {l : List PV} : (wpX Xp) (qLstR [.tup l] st) Q = Q (.ref st.length) (st ++ [.lst l]) := by unfold wpX; rfl
@[simp] theorem wp_mTup {l : List PV} : (wpX Xp) (mTup l st) Q = (l.length ≤ SZ ∧ Q (.tup l) st) := by simp [mTup]
@[simp] theorem wp_mLst {l : List PV} : (wpX Xp) (mLst l st) Q = (l.length ≤ SZ ∧ Q (.lst l) st) := by simp [mLst]
@[simp] theorem wp_mLstR {l : List PV} : (wpX Xp) (mLstR l st) Q = (l.length ≤ SZ ∧ Q (.ref st.length) (st ++ [.lst l])) := by simp [mLstR]
@[simp] theorem wp_ixT {l : List PV} {i : Int} : (wpX Xp) (pIx (.tup l) (.int i) st) Q = ∃ v, atI l i = some v ∧ Q v st := by
  simp only [pIx, dGet]
  cases atI l i <;> simp
@[simp] theorem wp_ixL {l : List PV} {i : Int} : (wpX Xp) (pIx (.lst l) (.int i) st) Q = ∃ v, atI l i = some v ∧ Q v st := by
  simp only [pIx, dGet, asR, asL]
  cases atI l i <;> simp
@[simp] theorem wp_ixS {l : List PV} {i : Int} : (wpX Xp) (pIx (.scr l) (.int i) st) Q = ∃ v, atI l i = some v ∧ Q v st := by
  simp only [pIx, dGet, asR]
  cases atI l i <;> simp
theorem wp_ixR {l : List PV} {i : Int} {n : Nat} (hn : st[n]? = some (.lst l)) : (wpX Xp) (pIx (.ref n) (.int i) st) Q = ∃ v, atI l i = some v ∧ Q v st := by
  simp only [pIx, dGet, asR, asL, hn]
  cases atI l i <;> simp
theorem wp_lenR {l : List PV} {n : Nat} (hn : st[n]? = some (.lst l)) : (wpX Xp) (qLen [.ref n] st) Q = Q (.int l.length) st := by
  simp only [qLen, hn, wp_ok]
theorem wp_tupR {l : List PV} {n : Nat} (hn : st[n]? = some (.lst l)) : (wpX Xp) (qTup [.ref n] st) Q = Q (.tup l) st := by
  simp only [qTup, asL, hn, wp_ok]
@[simp] theorem wp_addT {x y : List PV} : (wpX Xp) (pAdd (.tup x) (.tup y) st) Q = (x.length + y.length ≤ SZ ∧ Q (.tup (x ++ y)) st) := by simp [pAdd]
@[simp] theorem wp_addL {x y : List PV} : (wpX Xp) (pAdd (.lst x) (.lst y) st) Q = (x.length + y.length ≤ SZ ∧ Q (.lst (x ++ y)) st) := by simp [pAdd, asL]
@[simp] theorem wp_truthB {b : Bool} : (wpX Xp) (pTruth (.bl b) st) QB = QB b st := by unfold wpX; rfl
@[simp] theorem wp_dSl {a b : DO} : (wpX Xp) (dSl f a b σ st) Q = (wpX Xp) (f σ st) fun x st => (wpX Xp) (a σ st) fun lo st => (wpX Xp) (b σ st) fun hi st => (wpX Xp) (pSl x lo hi st) Q := by simp [dSl]
@[simp] theorem wp_oNone {QO : Option Int → Store → Prop} : (wpX Xp) (oNone σ st) QO = QO none st := by unfold wpX; rfl
@[simp] theorem wp_oSome {QO : Option Int → Store → Prop} : (wpX Xp) (oSome f σ st) QO = (wpX Xp) (f σ st) fun p st => ∃ i, p = .int i ∧ QO (some i) st := by
  simp only [oSome, wp_bind]
  congr 1; funext p st; cases p <;> simp
@[simp] theorem wp_slT {l : List PV} {lo hi : Option Int} : (wpX Xp) (pSl (.tup l) lo hi st) Q = Q (.tup (cut l lo hi)) st := by unfold wpX; rfl
@[simp] theorem wp_slL {l : List PV} {lo hi : Option Int} : (wpX Xp) (pSl (.lst l) lo hi st) Q = Q (.lst (cut l lo hi)) st := by unfold wpX; rfl
variable {N : AE → Store → Prop} {R : PV → Store → Prop} {B C : AE → Store → Prop} {s t : DS}
@[simp] theorem wps_next : (wpsX Xp) (sNext σ st) N R B C = N σ st := by unfold wpsX; rfl
@[simp] theorem wps_break : (wpsX Xp) (sBreak σ st) N R B C = B σ st := by unfold wpsX; rfl
@[simp] theorem wps_cont : (wpsX Xp) (sCont σ st) N R B C = C σ st := by unfold wpsX; rfl
@[simp] theorem wps_seq : (wpsX Xp) (sSeq s t σ st) N R B C = (wpsX Xp) (s σ st) (fun σ st => (wpsX Xp) (t σ st) N R B C) R B C := by
  unfold sSeq
  cases s σ st with
  | ok r st => obtain ⟨fl, σ⟩ := r; cases fl <;> (unfold wpsX; (try unfold wpX); rfl)
  | exc _ _ _ => (unfold wpsX; (try unfold wpX); rfl)
  | fail => (unfold wpsX; (try unfold wpX); rfl)
@[simp] theorem wps_expr : (wpsX Xp) (sExpr f σ st) N R B C = (wpX Xp) (f σ st) fun _ st => N σ st := by
  unfold sExpr
  cases f σ st <;> (unfold wpsX; (try unfold wpX); rfl)
@[simp] theorem wps_ret : (wpsX Xp) (sRet f σ st) N R B C = (wpX Xp) (f σ st) fun v st => R v st := by
  unfold sRet
  cases f σ st <;> (unfold wpsX; (try unfold wpX); rfl)
@[simp] theorem wps_retN : (wpsX Xp) (sRetN σ st) N R B C = R .non st := by unfold wpsX; rfl
@[simp] theorem wps_fail : (wpsX Xp) (sFail σ st) N R B C = False := by unfold wpsX; rfl
@[simp] theorem wps_if : (wpsX Xp) (sIf c s t σ st) N R B C = (wpX Xp) (c σ st) fun b st => cnd b ((wpsX Xp) (s σ st) N R B C) ((wpsX Xp) (t σ st) N R B C) := by
  unfold sIf
  cases c σ st with
  | ok b st => cases b <;> simp [Res.bind]
  | exc _ _ _ => (unfold wpsX; (try unfold wpX); rfl)
  | fail => (unfold wpsX; (try unfold wpX); rfl)
@[simp] theorem wps_asg {t : DT} : (wpsX Xp) (sAsg f t σ st) N R B C = (wpX Xp) (f σ st) fun p st => (wpX Xp) (t p σ st) fun σ st => N σ st := by
  unfold sAsg
  cases f σ st with
  | ok b st => simp only [Res.bind, wp_ok]; cases t b σ st <;> (unfold wpsX; (try unfold wpX); rfl)
  | exc _ _ _ => (unfold wpsX; (try unfold wpX); rfl)
  | fail => (unfold wpsX; (try unfold wpX); rfl)
@[simp] theorem wps_par {i j : Nat} : (wpsX Xp) (sPar i j fs σ st) N R B C = (wpX Xp) (fs σ st) fun ps st => par2 ps fun p q => N ((σ.set i (some p)).set j (some q)) st := by
  unfold sPar
  cases fs σ st with
  | ok ps st =>
    simp only [Res.bind, wp_ok]
    match ps with
    | [] => (unfold wpsX; (try unfold wpX); rfl)
    | [p] => (unfold wpsX; (try unfold wpX); rfl)
    | [p, q] => (unfold wpsX; (try unfold wpX); rfl)
    | p :: q :: r :: l => (unfold wpsX; (try unfold wpX); rfl)
  | exc _ _ _ => (unfold wpsX; (try unfold wpX); rfl)
  | fail => (unfold wpsX; (try unfold wpX); rfl)
@[simp] theorem wps_par3 {i j k : Nat} : (wpsX Xp) (sPar3 i j k fs σ st) N R B C = (wpX Xp) (fs σ st) fun ps st => par3 ps fun p q r => N (((σ.set i (some p)).set j (some q)).set k (some r)) st := by
  unfold sPar3
  cases fs σ st with
  | ok ps st =>
    simp only [Res.bind, wp_ok]
    match ps with
    | [] => (unfold wpsX; (try unfold wpX); rfl)
    | [p] => (unfold wpsX; (try unfold wpX); rfl)
    | [p, q] => (unfold wpsX; (try unfold wpX); rfl)
    | [p, q, r] => (unfold wpsX; (try unfold wpX); rfl)
    | p :: q :: r :: u :: l => (unfold wpsX; (try unfold wpX); rfl)
  | exc _ _ _ => (unfold wpsX; (try unfold wpX); rfl)
  | fail => (unfold wpsX; (try unfold wpX); rfl)
theorem wps_mono {r : Res (Fl × AE)} {N' : AE → Store → Prop} {R' : PV → Store → Prop} {B' C' : AE → Store → Prop} (h : (wpsX Xp) r N R B C) (n : ∀ σ st, N σ st → N' σ st) (rr : ∀ v st, R v st → R' v st) (b : ∀ σ st, B σ st → B' σ st) (c : ∀ σ st, C σ st → C' σ st) : (wpsX Xp) r N' R' B' C' := by
  unfold wpsX at h ⊢
  cases r with
  | ok r st =>
    obtain ⟨fl, σ⟩ := r
    cases fl
    · exact n _ _ h
    · exact b _ _ h
    · exact c _ _ h
    · exact rr _ _ h
  | exc _ _ _ => exact h
  | fail => exact h
variable {QE : AE → Store → Prop}
@[simp] theorem wp_tName {i : Nat} {p : PV} : (wpX Xp) (tName i p σ st) QE = QE (σ.set i (some p)) st := by unfold wpX; rfl
@[simp] theorem wp_tNil : (wpX Xp) (tNil [] σ st) QE = QE σ st := by unfold wpX; rfl
@[simp] theorem wp_tCons {t : DT} {ts : DTs} {p : PV} {ps : List PV} : (wpX Xp) (tCons t ts (p :: ps) σ st) QE = (wpX Xp) (t p σ st) fun σ st => (wpX Xp) (ts ps σ st) QE := by simp [tCons]
@[simp] theorem wp_tTupP {n : Nat} {ts : DTs} {l : List PV} : (wpX Xp) (tTupP n ts (.tup l) σ st) QE = (l.length = n ∧ (wpX Xp) (ts l σ st) QE) := by simp [tTupP]
@[simp] theorem wp_tSub {fo fi : DE} {p : PV} : (wpX Xp) (tSub fo fi p σ st) QE = (wpX Xp) (fo σ st) fun o st => (wpX Xp) (fi σ st) fun i st => (wpX Xp) (pSet o i p st) fun _ st => QE σ st := by simp [tSub]
theorem wps_forL {t : DT} {b : DS} {w : List Nat} (I : List PV → AE → Store → Prop) : ∀ (l : List PV) (σ : AE) (st : Store), I l σ st →
    (∀ p r σ st, I (p :: r) σ st → (wpX Xp) (t p σ st) fun σ1 st1 => (wpsX Xp) (b σ1 st1) (fun σ2 st2 => I r (wipeA σ2 w) st2) R (fun σ2 st2 => N (wipeA σ2 w) st2) (fun σ2 st2 => I r (wipeA σ2 w) st2)) → (∀ σ st, I [] σ st → N (wipeA σ w) st) →
    (wpsX Xp) (forL t b w (fun _ => true) l σ st) N R B C
  | [], σ, st, h, _, hf => by
    unfold forL
    rw [if_pos rfl]
    exact wps_nx.mpr (hf σ st h)
  | p :: r, σ, st, h, hs, hf => by
    unfold forL
    rw [if_pos rfl]
    have h1 := hs p r σ st h
    cases q : t p σ st with
    | ok σ1 st1 =>
      rw [q] at h1
      simp only [wp_ok] at h1
      simp only [Res.bind]
      cases q2 : b σ1 st1 with
      | ok r' st2 =>
        rw [q2] at h1
        obtain ⟨fl, σ2⟩ := r'
        cases fl with
        | nx => have h2 := wps_nx.mp h1; exact wps_forL I r _ _ h2 hs hf
        | ct => have h2 := wps_ct.mp h1; exact wps_forL I r _ _ h2 hs hf
        | bk => have h2 := wps_bk.mp h1; exact wps_nx.mpr h2
        | rt v => have h2 := wps_rt.mp h1; exact wps_rt.mpr h2
      | exc _ _ _ => rw [q2, wps_exc] at h1; exact wps_exc.mpr h1
      | fail => rw [q2] at h1; exact (nwsF h1).elim
    | exc _ _ _ => rw [q, wp_exc] at h1; exact wps_exc.mpr h1
    | fail => rw [q] at h1; exact (nwF h1).elim
theorem rgP_cons {a b : Int} (h : a < b) : rgP a b = .int a :: rgP (a + 1) b := by
  unfold rgP
  have e : (b - a).toNat = (b - (a + 1)).toNat + 1 := by omega
  rw [e, List.range_succ_eq_map]
  rw [List.map_cons, List.map_map]
  have e0 : a + ((0 : Nat) : Int) = a := by omega
  rw [e0]
  congr 1
  refine List.map_congr_left fun i _ => ?_
  simp only [Function.comp, PV.int.injEq]
  omega
theorem rgP_nil {a b : Int} (h : b ≤ a) : rgP a b = [] := by
  unfold rgP
  rw [show (b - a).toNat = 0 by omega]
  rfl
theorem wps_forR {t : DT} {b : DS} {w : List Nat} {hi : Int} (I : Int → AE → Store → Prop) (hs : ∀ i σ st, I i σ st → i < hi → (wpX Xp) (t (.int i) σ st) fun σ1 st1 => (wpsX Xp) (b σ1 st1) (fun σ2 st2 => I (i + 1) (wipeA σ2 w) st2) R (fun σ2 st2 => N (wipeA σ2 w) st2) (fun σ2 st2 => I (i + 1) (wipeA σ2 w) st2))
    (hf : ∀ i σ st, I i σ st → hi ≤ i → N (wipeA σ w) st) : ∀ (lo : Int) (σ : AE) (st : Store), I lo σ st → (wpsX Xp) (forL t b w (fun _ => true) (rgP lo hi) σ st) N R B C := fun lo σ st h => by
  refine wps_forL (fun l σ st => ∃ i, l = rgP i hi ∧ I i σ st) _ σ st ⟨lo, rfl, h⟩ ?_ ?_
  · rintro p r σ st ⟨i, e, h⟩
    by_cases hi' : i < hi
    · rw [rgP_cons hi'] at e
      cases e
      refine wp_mono (hs i σ st h hi') fun σ1 st1 h => ?_
      exact wps_mono h (fun σ st h => ⟨_, rfl, h⟩) (fun _ _ h => h) (fun _ _ h => h) (fun σ st h => ⟨_, rfl, h⟩)
    · rw [rgP_nil (by omega)] at e
      cases e
  · rintro σ st ⟨i, e, h⟩
    by_cases hi' : i < hi
    · rw [rgP_cons hi'] at e
      cases e
    · exact hf i σ st h (by omega)
@[simp] theorem wps_for {s : DI} {t : DT} {b : DS} {w : List Nat} : (wpsX Xp) (sFor s t b w σ st) N R B C = (wpX Xp) (s σ st) fun r st => (wpsX Xp) (forL t b w r.2 r.1 σ st) N R B C := by
  unfold sFor
  cases s σ st <;> (unfold wpsX; unfold wpX; rfl)
variable {QI : Src → Store → Prop}
@[simp] theorem wp_iRg1 : (wpX Xp) (iRg1 f σ st) QI = (wpX Xp) (f σ st) fun p st => ∃ n, p = .int n ∧ rgOk n = true ∧ QI (rgP 0 n, fun _ => true) st := by
  simp only [iRg1, wp_bind]
  congr 1; funext p st; cases p <;> simp
@[simp] theorem wp_iRg2 : (wpX Xp) (iRg2 f g σ st) QI = (wpX Xp) (f σ st) fun p st => (wpX Xp) (g σ st) fun q st => ∃ a b, p = .int a ∧ q = .int b ∧ rgOk a = true ∧ rgOk b = true ∧ QI (rgP a b, fun _ => true) st := by
  simp only [iRg2, wp_bind]
  congr 1; funext p st; congr 1; funext q st; cases p <;> cases q <;> simp [and_assoc]
@[simp] theorem wp_iSeq : (wpX Xp) (iSeq f σ st) QI = (wpX Xp) (f σ st) fun p st => (wpX Xp) (srcOf p st) QI := by simp [iSeq]
@[simp] theorem wp_srcT {l : List PV} : (wpX Xp) (srcOf (.tup l) st) QI = QI (l, fun _ => true) st := by unfold wpX; rfl
@[simp] theorem wp_srcL {l : List PV} : (wpX Xp) (srcOf (.lst l) st) QI = QI (l, fun _ => true) st := by unfold wpX; rfl
@[simp] theorem wp_iEn : (wpX Xp) (iEn f σ st) QI = (wpX Xp) (f σ st) fun p st => (wpX Xp) (srcEn p st) QI := by simp [iEn]
@[simp] theorem wp_enT {l : List PV} : (wpX Xp) (srcEn (.tup l) st) QI = QI (numbered 0 l, fun _ => true) st := by unfold wpX; rfl
@[simp] theorem wp_enL {l : List PV} : (wpX Xp) (srcEn (.lst l) st) QI = QI (numbered 0 l, fun _ => true) st := by unfold wpX; rfl
theorem rgOk_small {i : Int} (h0 : -1000000 ≤ i) (h1 : i ≤ 1000000) : rgOk i = true := by
  unfold rgOk
  rw [decide_eq_true_eq]
  omega
@[simp] theorem wp_comp {s : DI} {t : DT} {c : DB} {e : DE} {w : List Nat} {m : List PV → M PV} : (wpX Xp) (dCompL s t c e w m σ st) Q = (wpX Xp) (s σ st) fun r st => (wpX Xp) (lcI t c e r.2 (wipeA σ w) r.1 st) fun vs st => (wpX Xp) (m vs st) Q := by simp [dCompL]
@[simp] theorem wp_noX {α : Type} {Q : α → Store → Prop} {r : Res α} : (wpX Xp) (noX r) Q = wpX EF r Q := by cases r <;> (unfold wpX; rfl)
theorem wp_lcI {t : DT} {c : DB} {e : DE} {QL : List PV → Store → Prop} (I : List PV → List PV → Store → Prop) : ∀ (l : List PV) (st : Store), I [] l st →
    (∀ acc p r st, I acc (p :: r) st → wpX EF (t p σ st) fun σ1 st1 => wpX EF (c σ1 st1) fun b st2 => cnd b (wpX EF (e σ1 st2) fun v st3 => I (acc ++ [v]) r st3) (I acc r st2)) → (∀ acc st, I acc [] st → QL acc st) → (wpX Xp) (lcI t c e (fun _ => true) σ l st) QL := by
  have key : ∀ (l : List PV) (st : Store) (acc : List PV), I acc l st → (∀ acc p r st, I acc (p :: r) st → wpX EF (t p σ st) fun σ1 st1 => wpX EF (c σ1 st1) fun b st2 => cnd b (wpX EF (e σ1 st2) fun v st3 => I (acc ++ [v]) r st3) (I acc r st2)) →
      (wpX Xp) (lcI t c e (fun _ => true) σ l st) fun vs st => I (acc ++ vs) [] st := by
    intro l
    induction l with
    | nil =>
      intro st acc h _
      unfold lcI
      rw [if_pos rfl]
      simpa using h
    | cons p r ih =>
      intro st acc h hs
      unfold lcI
      rw [if_pos rfl]
      simp only [wp_bind, wp_noX]
      refine wp_mono (hs acc p r st h) fun σ1 st1 h => wp_mono h fun b st2 h => ?_
      cases b with
      | true =>
        simp only [cnd_true, if_true, wp_bind, wp_noX] at h ⊢
        refine wp_mono h fun v st3 h => wp_mono (ih st3 _ h hs) fun vs st4 h => ?_
        simpa using h
      | false =>
        simp only [cnd_false, Bool.false_eq_true, if_false] at h ⊢
        exact ih st2 acc h hs
  intro l st h hs hf
  refine wp_mono (key l st [] h hs) fun vs st h => hf vs st (by simpa using h)
end
end DN
namespace DN
open PySem PySem.Spec PyProof.Rows L2
variable {Xp : EP}
mutual
def cl : PV → Bool
  | .ref _ => false
  | .tup l => cls l
  | .ftp l => cls l
  | .lst l => cls l
  | .scr l => cls l
  | .err _ w => cl w
  | .fnv l => cls l
  | .dK _ l => cls l
  | .dT _ l => cls l
  | .non => true
  | .bl _ => true
  | .int _ => true
  | .str _ => true
  | .con _ => true
  | .ty _ => true
def cls : List PV → Bool
  | [] => true
  | p :: ps => cl p && cls ps
end
mutual
theorem mapV_cl {g : Nat → Option PV} : ∀ {p : PV}, cl p = true → mapV g p = some p
  | .ref n, h => by simp [cl] at h
  | .tup l, h => by simp only [cl] at h; simp only [mapV, mapVs_cl h, Option.map_some]
  | .ftp l, h => by simp only [cl] at h; simp only [mapV, mapVs_cl h, Option.map_some]
  | .lst l, h => by simp only [cl] at h; simp only [mapV, mapVs_cl h, Option.map_some]
  | .scr l, h => by simp only [cl] at h; simp only [mapV, mapVs_cl h, Option.map_some]
  | .err _ w, h => by simp only [cl] at h; simp only [mapV, mapV_cl h, Option.map_some]
  | .fnv l, h => by simp only [cl] at h; simp only [mapV, mapVs_cl h, Option.map_some]
  | .dK _ l, h => by simp only [cl] at h; simp only [mapV, mapVs_cl h, Option.map_some]
  | .dT _ l, h => by simp only [cl] at h; simp only [mapV, mapVs_cl h, Option.map_some]
  | .non, _ => by simp only [mapV]
  | .bl _, _ => by simp only [mapV]
  | .int _, _ => by simp only [mapV]
  | .str _, _ => by simp only [mapV]
  | .con _, _ => by simp only [mapV]
  | .ty _, _ => by simp only [mapV]
theorem mapVs_cl {g : Nat → Option PV} : ∀ {l : List PV}, cls l = true → mapVs g l = some l
  | [], _ => by simp only [mapVs]
  | p :: ps, h => by
    simp only [cls, Bool.and_eq_true] at h
    simp only [mapVs, mapV_cl h.1, mapVs_cl h.2, Option.bind_some, Option.map_some]
end
@[simp] theorem cl_int {i} : cl (.int i) = true := by simp [cl]
@[simp] theorem cl_str {i} : cl (.str i) = true := by simp [cl]
@[simp] theorem cl_non : cl .non = true := by simp [cl]
@[simp] theorem cl_bl {i} : cl (.bl i) = true := by simp [cl]
@[simp] theorem cl_tup {l} : cl (.tup l) = cls l := by simp [cl]
@[simp] theorem cl_lst {l} : cl (.lst l) = cls l := by simp [cl]
@[simp] theorem cl_dT {k l} : cl (.dT k l) = cls l := by simp [cl]
@[simp] theorem cl_dK {k l} : cl (.dK k l) = cls l := by simp [cl]
@[simp] theorem cls_nil : cls [] = true := by simp [cls]
@[simp] theorem cls_cons {p l} : cls (p :: l) = (cl p && cls l) := by simp [cls]
theorem cls_iff : ∀ {l : List PV}, cls l = true ↔ ∀ p ∈ l, cl p = true
  | [] => by simp
  | p :: l => by simp [cls_iff (l := l)]
@[simp] theorem cls_append {l m : List PV} : cls (l ++ m) = (cls l && cls m) := by
  rw [Bool.eq_iff_iff]
  simp only [cls_iff, Bool.and_eq_true, List.mem_append]
  exact ⟨fun h => ⟨fun p hp => h p (.inl hp), fun p hp => h p (.inr hp)⟩, fun h p hp => hp.elim (h.1 p) (h.2 p)⟩
@[simp] theorem cls_ints {l : List Int} : cls (l.map PV.int) = true := cls_iff.mpr fun p hp => by
  obtain ⟨i, _, rfl⟩ := List.mem_map.mp hp
  simp
theorem clip_cl {k : Nat} {st : Store} {p : PV} (h : cl p = true) : clip k st p = some p := mapV_cl h
def Gc (st : Store) (v : PV) (st' : Store) (Q : PV → Store → Prop) : Prop := ∃ v' s, clip st.length st' v = some v' ∧ gcS st.length st' st st' = some s ∧ Q v' s
section
variable {Q : PV → Store → Prop} {st st' x : Store} {junk : List SO} {v : PV} {n m k s : Nat} {f : DS} {ps : List PV}
def gx (st : Store) (X : EP) : EP := fun c w st' => Gc st w st' (X c)
theorem wp_dFn (hl : ps.length = n) (h : wpsX (gx st Xp) (f (ps.map some ++ List.replicate (m - n) none) st) (fun _ st' => Gc st .non st' Q) (fun v st' => Gc st v st' Q) (fun _ _ => False) (fun _ _ => False)) : (wpX Xp) (dFn n m f ps st) Q := by
  unfold dFn dFnK
  rw [if_pos hl]
  cases q : f (ps.map some ++ List.replicate (m - n) none) st with
  | ok r st' =>
    rw [q] at h
    obtain ⟨fl, σ⟩ := r
    unfold wpsX at h
    cases fl with
    | nx =>
      obtain ⟨v', s, h1, h2, h3⟩ := h
      simp only [Res.bind, gcR, h1, h2, wp_ok]
      exact h3
    | bk => exact h.elim
    | ct => exact h.elim
    | rt v =>
      obtain ⟨v', s, h1, h2, h3⟩ := h
      simp only [Res.bind, gcR, h1, h2, wp_ok]
      exact h3
  | exc c w st' =>
    rw [q, wps_exc] at h
    obtain ⟨v', s, h1, h2, h3⟩ := h
    simp only [Res.bind, gcR, h1, h2]
    exact wp_exc.mpr h3
  | fail => rw [q] at h; exact (nwsF h).elim
theorem wp_fn (h : wpsX (gx st Xp) (f (ps.map some ++ List.replicate (m - n) none) st) (fun _ st' => Gc st .non st' Q) (fun v st' => Gc st v st' Q) (fun _ _ => False) (fun _ _ => False)) (hl : ps.length = n := by rfl) : (wpX Xp) (dFn n m f ps st) Q := wp_dFn hl h
theorem wp_dFnK (hl : ps.length = n) (h : (wpsX Xp) (f (ps.map some ++ List.replicate (m - n) none) st) (fun _ st' => Q .non st') Q (fun _ _ => False) (fun _ _ => False)) : (wpX Xp) (dFnK n m f ps st) Q := by
  unfold dFnK
  rw [if_pos hl]
  cases q : f (ps.map some ++ List.replicate (m - n) none) st with
  | ok r st' =>
    rw [q] at h
    obtain ⟨fl, σ⟩ := r
    unfold wpsX at h
    cases fl with
    | nx => exact wp_ok.mpr h
    | bk => exact h.elim
    | ct => exact h.elim
    | rt v => exact wp_ok.mpr h
  | exc c w st' => rw [q, wps_exc] at h; exact wp_exc.mpr h
  | fail => rw [q] at h; exact (nwsF h).elim
theorem gcS_of : ∀ {l x : List SO} {junk : List SO}, x.length = l.length → (∀ (n : Nat) (o o' : SO), l[n]? = some o → x[n]? = some o' → o = o' ∨ clipO k st' o' = some o') → gcS k st' l (x ++ junk) = some x
  | [], [], junk, _, _ => by simp [gcS]
  | [], _ :: _, _, h, _ => by cases h
  | _ :: _, [], _, h, _ => by cases h
  | o :: l, o' :: x, junk, h, hn => by
    have ih := gcS_of (l := l) (x := x) (junk := junk) (by simpa using h) fun n u u' h1 h2 => hn (n + 1) u u' (by simpa using h1) (by simpa using h2)
    have h0 := hn 0 o o' rfl rfl
    simp only [List.cons_append, gcS, ih, Option.map_some]
    have e : gcO k st' o o' = some o' := by
      unfold gcO
      rcases h0 with rfl | h0
      · rw [if_pos rfl]
      · by_cases q : o = o'
        · rw [if_pos q, q]
        · rw [if_neg q]; exact h0
    rw [e]
    rfl
theorem gcS_app {junk : List SO} : gcS k st' st (st ++ junk) = some st := gcS_of rfl fun n o o' h1 h2 => .inl (by rw [h1] at h2; cases h2; rfl)
theorem Gc.pure (hc : cl v = true) (e : st' = st ++ junk) (q : Q v st) : Gc st v st' Q := by
  subst e
  exact ⟨v, st, clip_cl hc, gcS_app, q⟩
theorem Gc.same (hc : cl v = true) (q : Q v st) : Gc st v st Q := Gc.pure (junk := []) hc (by simp) q
theorem Gc.lstP {l : List PV} (hc : cls l = true) (e : st' = st ++ junk) (hn : st.length ≤ n) (hl : st'[n]? = some (.lst l)) (q : Q (.lst l) st) : Gc st (.ref n) st' Q := by
  subst e
  refine ⟨.lst l, st, ?_, gcS_app, q⟩
  simp only [clip, mapV, clipR, if_neg (Nat.not_lt.mpr hn), hl, mapVs_cl hc, Option.map_some]
def SrcAt (st : Store) (s : Nat) : Prop := ∃ a b : Int, st[s]? = some (.lst [.int a, .int b]) ∧ 0 ≤ a ∧ 0 ≤ b
def Dr (s : Nat) (st st' : Store) : Prop := st' = st ∨ ∃ a b : Int, 0 ≤ a ∧ 0 ≤ b ∧ st' = st.set s (.lst [.int a, .int b])
theorem SrcAt.lt (h : SrcAt st s) : s < st.length := by
  obtain ⟨a, b, e, _⟩ := h
  exact (List.getElem?_eq_some_iff.mp e).1
theorem Dr.refl : Dr s st st := .inl rfl
theorem Dr.trans {st2 : Store} (h : Dr s st st') (g : Dr s st' st2) : Dr s st st2 := by
  rcases h with rfl | ⟨a, b, h1, h2, rfl⟩
  · exact g
  · rcases g with rfl | ⟨c, d, h3, h4, rfl⟩
    · exact .inr ⟨a, b, h1, h2, rfl⟩
    · exact .inr ⟨c, d, h3, h4, by rw [List.set_set]⟩
theorem Dr.len (h : Dr s st st') : st'.length = st.length := by
  rcases h with rfl | ⟨a, b, h1, h2, rfl⟩
  · rfl
  · simp
theorem Dr.src (hs : SrcAt st s) (h : Dr s st st') : SrcAt st' s := by
  rcases h with rfl | ⟨a, b, h1, h2, rfl⟩
  · exact hs
  · exact ⟨a, b, by rw [List.getElem?_set_self hs.lt], h1, h2⟩
theorem Dr.get (h : Dr s st st') (hn : n ≠ s) : st'[n]? = st[n]? := by
  rcases h with rfl | ⟨a, b, h1, h2, rfl⟩
  · rfl
  · rw [List.getElem?_set_ne (Ne.symm hn)]
theorem SrcAt.app (hs : SrcAt st s) : SrcAt (st ++ junk) s := by
  obtain ⟨a, b, e, h⟩ := hs
  exact ⟨a, b, by rw [List.getElem?_append_left (List.getElem?_eq_some_iff.mp e).1]; exact e, h⟩
theorem Dr.app (hl : s < x.length) (h : Dr s (x ++ junk) st') : ∃ x', st' = x' ++ junk ∧ Dr s x x' := by
  rcases h with rfl | ⟨a, b, h1, h2, rfl⟩
  · exact ⟨x, rfl, .refl⟩
  · exact ⟨_, by rw [List.set_append_left _ _ hl], .inr ⟨a, b, h1, h2, rfl⟩⟩
theorem gcS_dr (h : Dr s st x) : gcS k st' st (x ++ junk) = some x := gcS_of h.len fun n o o' h1 h2 => by
  rcases h with rfl | ⟨a, b, h3, h4, rfl⟩
  · exact .inl (by rw [h1] at h2; cases h2; rfl)
  · by_cases e : s = n
    · subst e
      rw [List.getElem?_set_self (List.getElem?_eq_some_iff.mp h1).1] at h2
      cases h2
      exact .inr (by simp [clipO, mapVs, mapV])
    · rw [List.getElem?_set_ne e] at h2
      exact .inl (by rw [h1] at h2; cases h2; rfl)
theorem Gc.dr (hc : cl v = true) (h : Dr s st x) (e : st' = x ++ junk) (q : Q v x) : Gc st v st' Q := by
  subst e
  exact ⟨v, x, clip_cl hc, gcS_dr h, q⟩
theorem Gc.dr0 (hc : cl v = true) (h : Dr s st st') (q : Q v st') : Gc st v st' Q := Gc.dr (junk := []) hc h (by simp) q
theorem Gc.lst {l : List PV} (hc : cls l = true) (h : Dr s st x) (e : st' = x ++ junk) (hn : st.length ≤ n) (hl : st'[n]? = some (.lst l)) (q : Q (.lst l) x) : Gc st (.ref n) st' Q := by
  subst e
  refine ⟨.lst l, x, ?_, gcS_dr h, q⟩
  simp only [clip, mapV, clipR, if_neg (Nat.not_lt.mpr hn), hl, mapVs_cl hc, Option.map_some]
theorem Gc.dT {es : List (List Key × PV)} (hc : cls (es.map (·.2)) = true) (h : Dr s st x) (e : st' = x ++ junk) (hn : st.length ≤ n) (hl : st'[n]? = some (.dT es)) (q : Q (.dT (es.map (·.1)) (es.map (·.2))) x) : Gc st (.ref n) st' Q := by
  subst e
  refine ⟨_, x, ?_, gcS_dr h, q⟩
  simp only [clip, mapV, clipR, if_neg (Nat.not_lt.mpr hn), hl, mapVs_cl hc, Option.map_some]
theorem app_get (h : x.length = k) {i : Nat} : (x ++ junk)[k + i]? = junk[i]? := by
  rw [List.getElem?_append_right (by omega)]
  congr 1
  omega
theorem app_get0 (h : x.length = k) : (x ++ junk)[k]? = junk[0]? := app_get (i := 0) h
theorem app_set (h : x.length = k) {i : Nat} {o : SO} : (x ++ junk).set (k + i) o = x ++ junk.set i o := by
  rw [List.set_append_right _ _ (by omega)]
  congr 2
  omega
theorem app_set0 (h : x.length = k) {o : SO} : (x ++ junk).set k o = x ++ junk.set 0 o := app_set (i := 0) h
variable {σ : AE} {g : DE} {fs : DA}
@[simp] theorem wp_dM {chk : PV → Store → Bool} {d : PV → List PV → M PV} : (wpX Xp) (dM chk d g fs σ st) Q = (wpX Xp) (g σ st) fun x st => chk x st = true ∧ (wpX Xp) (fs σ st) fun xs st => (wpX Xp) (d x xs st) Q := by
  simp only [dM, wp_bind]
  congr 1; funext x st
  by_cases h : chk x st = true <;> simp [h]
@[simp] theorem wp_dM0 {chk : PV → Store → Bool} {d : PV → List PV → M PV} : (wpX Xp) (dM0 chk d g σ st) Q = (wpX Xp) (g σ st) fun x st => chk x st = true ∧ (wpX Xp) (d x [] st) Q := by
  simp only [dM0, wp_bind]
  congr 1; funext x st
  by_cases h : chk x st = true <;> simp [h]
theorem isL_ref {l : List PV} (h : st[n]? = some (.lst l)) : isL (.ref n) st = true := by simp [isL, asL, h]
theorem wp_append {l : List PV} {y : PV} (h : st[n]? = some (.lst l)) (hz : l.length < SZ) (q : Q .non (st.set n (.lst (l ++ [y])))) : (wpX Xp) (mAppend (.ref n) [y] st) Q := by
  simp only [mAppend, refL, h]
  rw [if_pos hz]
  exact wp_ok.mpr q
theorem wp_extend {l m : List PV} {y : PV} (h : st[n]? = some (.lst l)) (hy : asL y st = some m) (hz : l.length + m.length ≤ SZ) (q : Q .non (st.set n (.lst (l ++ m)))) : (wpX Xp) (mExtend (.ref n) [y] st) Q := by
  simp only [mExtend, refL, h, hy]
  rw [if_pos hz]
  exact wp_ok.mpr q
theorem wp_setL {l : List PV} {i : Int} {y : PV} {j : Nat} {QU : Unit → Store → Prop} (h : st[n]? = some (.lst l)) (hj : ixN l.length i = some j) (q : QU () (st.set n (.lst (l.set j y)))) : (wpX Xp) (pSet (.ref n) (.int i) y st) QU := by
  simp only [pSet, h, hj]
  exact wp_ok.mpr q
theorem ixN_nat {n i : Nat} (h : i < n) : ixN n (i : Int) = some i := by
  unfold ixN
  rw [if_pos (by omega), if_pos (by omega)]
  simp
theorem ixN_int {n : Nat} {i : Int} (h0 : 0 ≤ i) (h : i < n) : ixN n i = some i.toNat := by
  unfold ixN
  rw [if_pos h0, if_pos h]
theorem atI_int {α : Type} {l : List α} {i : Int} (h0 : 0 ≤ i) (h : i < l.length) : atI l i = l[i.toNat]? := by
  unfold atI
  rw [ixN_int h0 h]
  rfl
theorem atI_some {α : Type} {l : List α} {i : Int} (h0 : 0 ≤ i) (h : i < l.length) : ∃ v, atI l i = some v ∧ v ∈ l ∧ l[i.toNat]? = some v := by
  have hl : i.toNat < l.length := by omega
  exact ⟨l[i.toNat], by rw [atI_int h0 h, List.getElem?_eq_getElem hl], List.getElem_mem hl, List.getElem?_eq_getElem hl⟩
@[simp] theorem atI_zero {α : Type} {a : α} {l : List α} : atI (a :: l) 0 = some a := by
  rw [atI_int (by omega) (by simp only [List.length_cons]; omega)]
  rfl
@[simp] theorem atI_one {α : Type} {a b : α} {l : List α} : atI (a :: b :: l) 1 = some b := by
  rw [atI_int (by omega) (by simp only [List.length_cons]; omega)]
  rfl
@[simp] theorem atI_two {α : Type} {a b c : α} {l : List α} : atI (a :: b :: c :: l) 2 = some c := by
  rw [atI_int (by omega) (by simp only [List.length_cons]; omega)]
  rfl
end
end DN
namespace DN
open PySem PySem.Spec PyProof.Rows L2
variable {Xp : EP}
def dpv : Nat → PV → Bool
  | _, .non => true
  | _, .int _ => true
  | _, .str x => PyData.strOk x
  | n + 1, .tup l => l.all (dpv n)
  | n + 1, .lst l => l.all (dpv n)
  | _, _ => false
theorem toD0s_of {R : PyData → Prop} {l : List PV} (h : ∀ p ∈ l, ∃ d, toD0 p = some d ∧ R d) : ∃ ds, toD0s l = some ds ∧ ∀ d ∈ ds, R d := by
  induction l with
  | nil => exact ⟨[], by simp [toD0s], by simp⟩
  | cons p l ih =>
    obtain ⟨d, e1, r1⟩ := h p List.mem_cons_self
    obtain ⟨ds, e2, r2⟩ := ih fun q hq => h q (List.mem_cons_of_mem _ hq)
    exact ⟨d :: ds, by simp [toD0s, e1, e2], by simpa using ⟨r1, r2⟩⟩
theorem canLayAll_of {n : Nat} : ∀ {ds : List PyData}, (∀ d ∈ ds, PyData.canLay0 d = true ∧ PyData.depth d ≤ n) → PyData.canLayAll0 ds = true ∧ PyData.depthAll ds ≤ n
  | [], _ => by simp [PyData.canLayAll0, PyData.depthAll]
  | d :: ds, h => by
    have a := h d List.mem_cons_self
    have ih := canLayAll_of (ds := ds) fun q hq => h q (List.mem_cons_of_mem _ hq)
    simp only [PyData.canLayAll0, PyData.depthAll, a.1, ih.1, Bool.and_self, true_and]
    exact Nat.max_le.mpr ⟨a.2, ih.2⟩
theorem dpv_d : ∀ (n : Nat) (p : PV), dpv n p = true → ∃ d, toD0 p = some d ∧ PyData.canLay0 d = true ∧ PyData.depth d ≤ n := by
  intro n
  induction n with
  | zero =>
    intro p h
    cases p <;> simp [dpv] at h <;> simp_all [toD0, PyData.canLay0, PyData.depth]
  | succ n ih =>
    intro p h
    cases p with
    | tup l =>
      simp only [dpv, List.all_eq_true] at h
      obtain ⟨ds, e, r⟩ := toD0s_of (l := l) fun p hp => ih p (h p hp)
      have z := canLayAll_of r
      exact ⟨.tuple ds, by simp [toD0, e], by simpa [PyData.canLay0] using z.1, by simpa [PyData.depth] using z.2⟩
    | lst l =>
      simp only [dpv, List.all_eq_true] at h
      obtain ⟨ds, e, r⟩ := toD0s_of (l := l) fun p hp => ih p (h p hp)
      have z := canLayAll_of r
      exact ⟨.list ds, by simp [toD0, e], by simpa [PyData.canLay0] using z.1, by simpa [PyData.depth] using z.2⟩
    | _ => simp [dpv] at h <;> simp_all [toD0, PyData.canLay0, PyData.depth]
theorem shaped_of {d : PyData} (h : PyData.canLay0 d = true) (hd : PyData.depth d ≤ 64) : SeqAt.shaped d = true := by
  simp [SeqAt.shaped, h, hd]
def cleanD : Nat → PyData → Bool
  | _, .none => true
  | _, .int _ => true
  | _, .str _ => true
  | n + 1, .tuple l => l.all (cleanD n)
  | n + 1, .list l => l.all (cleanD n)
  | _, _ => false
theorem dpv_clean : ∀ (n : Nat) (p : PV) (d : PyData), dpv n p = true → toD0 p = some d → cleanD n d = true := by
  intro n
  induction n with
  | zero =>
    intro p d h e
    cases p <;> simp [dpv] at h <;> simp [toD0] at e <;> subst e <;> rfl
  | succ n ih =>
    have key : ∀ (l : List PV) (ds : List PyData), l.all (dpv n) = true → toD0s l = some ds → ds.all (cleanD n) = true := by
      intro l
      induction l with
      | nil => intro ds _ e; simp [toD0s] at e; subst e; rfl
      | cons p l ih2 =>
        intro ds h e
        simp only [List.all_cons, Bool.and_eq_true] at h
        simp only [toD0s] at e
        obtain ⟨d, e1, e⟩ := Option.bind_eq_some_iff.mp e
        obtain ⟨ds', e2, rfl⟩ := Option.map_eq_some_iff.mp e
        simp [ih p d h.1 e1, ih2 ds' h.2 e2]
    intro p d h e
    cases p with
    | tup l =>
      simp only [dpv] at h
      simp only [toD0] at e
      obtain ⟨ds, e1, rfl⟩ := Option.map_eq_some_iff.mp e
      exact key l ds h e1
    | lst l =>
      simp only [dpv] at h
      simp only [toD0] at e
      obtain ⟨ds, e1, rfl⟩ := Option.map_eq_some_iff.mp e
      exact key l ds h e1
    | _ => simp [dpv] at h <;> (simp [toD0] at e) <;> subst e <;> rfl
theorem eqv_clean : ∀ (n : Nat) (d e : PyData), cleanD n d = true → cleanD n e = true → (PyData.eqv d e = true ↔ d = e) := by
  intro n
  induction n with
  | zero =>
    intro d e h1 h2
    cases d <;> simp [cleanD] at h1 <;> cases e <;> simp [cleanD] at h2 <;> simp [PyData.eqv]
  | succ n ih =>
    have key : ∀ (l m : List PyData), l.all (cleanD n) = true → m.all (cleanD n) = true → (PyData.eqvAll l m = true ↔ l = m) := by
      intro l
      induction l with
      | nil => intro m _ _; cases m <;> simp [PyData.eqvAll]
      | cons a l ih2 =>
        intro m h1 h2
        cases m with
        | nil => simp [PyData.eqvAll]
        | cons b m =>
          simp only [List.all_cons, Bool.and_eq_true] at h1 h2
          simp only [PyData.eqvAll, Bool.and_eq_true, List.cons.injEq]
          rw [ih a b h1.1 h2.1, ih2 m h1.2 h2.2]
    intro d e h1 h2
    cases d <;> simp [cleanD] at h1 <;> cases e <;> simp [cleanD] at h2 <;> simp only [PyData.eqv, reduceCtorEq, Bool.false_eq_true, beq_iff_eq, PyData.int.injEq, PyData.str.injEq, PyData.list.injEq, PyData.tuple.injEq]
    · exact key _ _ (by simpa using h1) (by simpa using h2)
    · exact key _ _ (by simpa using h1) (by simpa using h2)
theorem toD0_inj : ∀ (n : Nat) (p q : PV) (d : PyData), dpv n p = true → dpv n q = true → toD0 p = some d → toD0 q = some d → p = q := by
  intro n
  induction n with
  | zero =>
    intro p q d h1 h2 e1 e2
    cases p <;> simp [dpv] at h1 <;> cases q <;> simp [dpv] at h2 <;> simp [toD0] at e1 e2 <;> subst e1 <;> simp_all
  | succ n ih =>
    have key : ∀ (l m : List PV) (ds : List PyData), l.all (dpv n) = true → m.all (dpv n) = true → toD0s l = some ds → toD0s m = some ds → l = m := by
      intro l
      induction l with
      | nil =>
        intro m ds _ _ e1 e2
        simp [toD0s] at e1
        subst e1
        cases m with
        | nil => rfl
        | cons b m =>
          simp only [toD0s] at e2
          obtain ⟨d, _, e⟩ := Option.bind_eq_some_iff.mp e2
          obtain ⟨_, _, e⟩ := Option.map_eq_some_iff.mp e
          cases e
      | cons a l ih2 =>
        intro m ds h1 h2 e1 e2
        simp only [toD0s] at e1
        obtain ⟨d, a1, e⟩ := Option.bind_eq_some_iff.mp e1
        obtain ⟨ds', a2, rfl⟩ := Option.map_eq_some_iff.mp e
        cases m with
        | nil => simp [toD0s] at e2
        | cons b m =>
          simp only [toD0s] at e2
          obtain ⟨d2, b1, e⟩ := Option.bind_eq_some_iff.mp e2
          obtain ⟨ds2, b2, e⟩ := Option.map_eq_some_iff.mp e
          cases e
          simp only [List.all_cons, Bool.and_eq_true] at h1 h2
          rw [ih a b d h1.1 h2.1 a1 b1, ih2 m ds' h1.2 h2.2 a2 b2]
    intro p q d h1 h2 e1 e2
    match p, q, h1, h2, e1, e2 with
    | .tup l, .tup m, h1, h2, e1, e2 =>
      simp only [toD0] at e1 e2
      obtain ⟨ds, e3, rfl⟩ := Option.map_eq_some_iff.mp e1
      obtain ⟨ds2, e4, e⟩ := Option.map_eq_some_iff.mp e2
      cases e
      rw [key l m ds (by simpa only [dpv] using h1) (by simpa only [dpv] using h2) e3 e4]
    | .lst l, .lst m, h1, h2, e1, e2 =>
      simp only [toD0] at e1 e2
      obtain ⟨ds, e3, rfl⟩ := Option.map_eq_some_iff.mp e1
      obtain ⟨ds2, e4, e⟩ := Option.map_eq_some_iff.mp e2
      cases e
      rw [key l m ds (by simpa only [dpv] using h1) (by simpa only [dpv] using h2) e3 e4]
    | .tup l, .lst m, h1, h2, e1, e2 =>
      simp only [toD0] at e1 e2
      obtain ⟨ds, e3, rfl⟩ := Option.map_eq_some_iff.mp e1
      obtain ⟨ds2, e4, e⟩ := Option.map_eq_some_iff.mp e2
      cases e
    | .lst l, .tup m, h1, h2, e1, e2 =>
      simp only [toD0] at e1 e2
      obtain ⟨ds, e3, rfl⟩ := Option.map_eq_some_iff.mp e1
      obtain ⟨ds2, e4, e⟩ := Option.map_eq_some_iff.mp e2
      cases e
    | .non, q, h1, h2, e1, e2 => cases q <;> simp [toD0, dpv] at e1 e2 h2 <;> subst e1 <;> simp_all
    | .int i, q, h1, h2, e1, e2 => cases q <;> simp [toD0, dpv] at e1 e2 h2 <;> subst e1 <;> simp_all
    | .str i, q, h1, h2, e1, e2 => cases q <;> simp [toD0, dpv] at e1 e2 h2 <;> subst e1 <;> simp_all
    | .tup l, .non, h1, h2, e1, e2 => simp [toD0] at e1 e2; subst e2; simp at e1
    | .tup l, .int _, h1, h2, e1, e2 => simp [toD0] at e1 e2; subst e2; simp at e1
    | .tup l, .str _, h1, h2, e1, e2 => simp [toD0] at e1 e2; subst e2; simp at e1
    | .lst l, .non, h1, h2, e1, e2 => simp [toD0] at e1 e2; subst e2; simp at e1
    | .lst l, .int _, h1, h2, e1, e2 => simp [toD0] at e1 e2; subst e2; simp at e1
    | .lst l, .str _, h1, h2, e1, e2 => simp [toD0] at e1 e2; subst e2; simp at e1
    | .bl _, _, h1, _, _, _ => simp [dpv] at h1
    | .dK _ _, _, h1, _, _, _ => simp [dpv] at h1
    | .dT _ _, _, h1, _, _, _ => simp [dpv] at h1
    | .ref _, _, h1, _, _, _ => simp [dpv] at h1
    | .con _, _, h1, _, _, _ => simp [dpv] at h1
    | .ty _, _, h1, _, _, _ => simp [dpv] at h1
    | .scr _, _, h1, _, _, _ => simp [dpv] at h1
    | .err _ _, _, h1, _, _, _ => simp [dpv] at h1
    | .fnv _, _, h1, _, _, _ => simp [dpv] at h1
    | _, .bl _, _, h1, _, _ => simp [dpv] at h1
    | _, .dK _ _, _, h1, _, _ => simp [dpv] at h1
    | _, .dT _ _, _, h1, _, _ => simp [dpv] at h1
    | _, .ref _, _, h1, _, _ => simp [dpv] at h1
    | _, .con _, _, h1, _, _ => simp [dpv] at h1
    | _, .ty _, _, h1, _, _ => simp [dpv] at h1
    | _, .scr _, _, h1, _, _ => simp [dpv] at h1
    | _, .err _ _, _, h1, _, _ => simp [dpv] at h1
    | _, .fnv _, _, h1, _, _ => simp [dpv] at h1
theorem eqv_dpv {n : Nat} {p q : PV} {d e : PyData} (hp : dpv n p = true) (hq : dpv n q = true) (h1 : toD0 p = some d) (h2 : toD0 q = some e) : PyData.eqv d e = true ↔ p = q := by
  rw [eqv_clean n d e (dpv_clean n p d hp h1) (dpv_clean n q e hq h2)]
  constructor
  · intro z
    subst z
    exact toD0_inj n p q d hp hq h1 h2
  · intro z
    subst z
    rw [h1] at h2
    exact Option.some.inj h2
open Classical in
theorem pEqB_dpv {x y : PV} {st : Store} (hx : dpv 64 x = true) (hy : dpv 64 y = true) : pEqB x y st = .ok (decide (x = y)) st := by
  obtain ⟨d, e1, c1, z1⟩ := dpv_d 64 x hx
  obtain ⟨e, e2, c2, z2⟩ := dpv_d 64 y hy
  have gen : pEqB x y st = .ok (PyData.eqv d e) st → pEqB x y st = .ok (decide (x = y)) st := fun h => by
    rw [h]
    congr 1
    rw [Bool.eq_iff_iff, decide_eq_true_eq]
    exact eqv_dpv hx hy e1 e2
  have t1 : toD x st = some d := by cases x <;> first | exact e1 | (simp [dpv] at hx)
  have t2 : toD y st = some e := by cases y <;> first | exact e2 | (simp [dpv] at hy)
  apply gen
  unfold pEqB
  split
  · simp only [toD0, Option.some.injEq] at e1 e2; subst e1 e2; simp [PyData.eqv]; congr
  · simp only [toD0, Option.some.injEq] at e1 e2; subst e1 e2; simp [PyData.eqv]; congr
  · rw [t1, t2]
    simp only [shaped_of c1 z1, shaped_of c2 z2, and_self, if_true]
section
variable {Q : PV → Store → Prop} {st : Store} {x y : PV} {l : List PV}
open Classical in
theorem wp_eqD (hx : dpv 64 x = true) (hy : dpv 64 y = true) : (wpX Xp) (pEq x y st) Q = Q (.bl (decide (x = y))) st := by
  simp only [pEq, pEqB_dpv hx hy, Res.bind, wp_ok]
open Classical in
theorem wp_neD (hx : dpv 64 x = true) (hy : dpv 64 y = true) : (wpX Xp) (pNe x y st) Q = Q (.bl (!decide (x = y))) st := by
  simp only [pNe, pEqB_dpv hx hy, Res.bind, wp_ok]
theorem any_dpv {n : Nat} : ∀ {l : List PV} {ds : List PyData} {d : PyData}, dpv n x = true → toD0 x = some d → l.all (dpv n) = true → toD0s l = some ds → ((ds.any fun z => PyData.eqv z d) = true ↔ x ∈ l)
  | [], ds, d, _, _, _, e => by simp [toD0s] at e; subst e; simp
  | p :: l, ds, d, hx, hd, h, e => by
    simp only [toD0s] at e
    obtain ⟨d', a1, e⟩ := Option.bind_eq_some_iff.mp e
    obtain ⟨ds', a2, rfl⟩ := Option.map_eq_some_iff.mp e
    simp only [List.all_cons, Bool.and_eq_true] at h
    simp only [List.any_cons, Bool.or_eq_true, List.mem_cons]
    rw [any_dpv hx hd h.2 a2, eqv_dpv h.1 hx a1 hd]
    exact ⟨fun z => z.imp Eq.symm id, fun z => z.imp Eq.symm id⟩
open Classical in
theorem pInB_dpv {y : PV} (hy : y = .tup l ∨ y = .lst l) (hx : dpv 63 x = true) (hl : l.all (dpv 63) = true) : pInB x y st = .ok (decide (x ∈ l)) st := by
  have hx64 : dpv 63 x = true := hx
  obtain ⟨d, e1, c1, z1⟩ := dpv_d 63 x hx
  have t1 : toD x st = some d := by cases x <;> first | exact e1 | (simp [dpv] at hx)
  have hy64 : dpv 64 y = true := by rcases hy with rfl | rfl <;> simpa [dpv] using hl
  obtain ⟨e, e2, c2, z2⟩ := dpv_d 64 y hy64
  have s1 := shaped_of c1 (Nat.le_succ_of_le z1)
  have s2 := shaped_of c2 z2
  rcases hy with rfl | rfl
  · simp only [toD0] at e2
    obtain ⟨ds, e3, rfl⟩ := Option.map_eq_some_iff.mp e2
    have g : dGet (.tup l) x st = none := rfl
    have t2 : toD (.tup l) st = some (.tuple ds) := by simp only [toD, toD0, e3, Option.map_some]
    unfold pInB
    rw [g]
    have m : (ds.any fun z => PyData.eqv z d) = decide (x ∈ l) := by rw [Bool.eq_iff_iff, decide_eq_true_eq]; exact any_dpv hx e1 hl e3
    cases x <;> (try (simp [dpv] at hx)) <;> simp only [t1, t2, s1, s2, and_self, if_true, m]
  · simp only [toD0] at e2
    obtain ⟨ds, e3, rfl⟩ := Option.map_eq_some_iff.mp e2
    have g : dGet (.lst l) x st = none := rfl
    have t2 : toD (.lst l) st = some (.list ds) := by simp only [toD, toD0, e3, Option.map_some]
    unfold pInB
    rw [g]
    have m : (ds.any fun z => PyData.eqv z d) = decide (x ∈ l) := by rw [Bool.eq_iff_iff, decide_eq_true_eq]; exact any_dpv hx e1 hl e3
    cases x <;> (try (simp [dpv] at hx)) <;> simp only [t1, t2, s1, s2, and_self, if_true, m]
open Classical in
theorem wp_inT (hx : dpv 63 x = true) (hl : l.all (dpv 63) = true) : (wpX Xp) (pIn x (.tup l) st) Q = Q (.bl (decide (x ∈ l))) st := by
  simp only [pIn, pInB_dpv (.inl rfl) hx hl, Res.bind, wp_ok]
open Classical in
theorem wp_inL (hx : dpv 63 x = true) (hl : l.all (dpv 63) = true) : (wpX Xp) (pIn x (.lst l) st) Q = Q (.bl (decide (x ∈ l))) st := by
  simp only [pIn, pInB_dpv (.inr rfl) hx hl, Res.bind, wp_ok]
open Classical in
theorem wp_notInL (hx : dpv 63 x = true) (hl : l.all (dpv 63) = true) : (wpX Xp) (pNotIn x (.lst l) st) Q = Q (.bl (!decide (x ∈ l))) st := by
  simp only [pNotIn, pInB_dpv (.inr rfl) hx hl, Res.bind, wp_ok]
end
end DN
namespace DN
open PySem PySem.Spec PyProof.Rows L2
variable {Xp : EP}
section
variable {Q : PV → Store → Prop} {QB : Bool → Store → Prop} {st : Store} {σ : AE} {N : AE → Store → Prop} {R : PV → Store → Prop} {B C : AE → Store → Prop} {c : DB} {b : DS} {w : List Nat}
theorem whileN_more : ∀ (n k : Nat) (σ : AE) (st : Store), whileN c b w n σ st ≠ .fail → whileN c b w (n + k) σ st = whileN c b w n σ st
  | 0, _, _, _, h => (h rfl).elim
  | n + 1, k, σ, st, h => by
    rw [show n + 1 + k = (n + k) + 1 by omega]
    unfold whileN at h ⊢
    cases q : c σ st with
    | ok t st1 =>
      rw [q] at h
      simp only [Res.bind] at h ⊢
      cases t with
      | false => rfl
      | true =>
        simp only [if_true] at h ⊢
        cases q2 : b σ st1 with
        | ok r st2 =>
          rw [q2] at h
          obtain ⟨fl, σ2⟩ := r
          cases fl with
          | nx => exact whileN_more n k _ _ h
          | ct => exact whileN_more n k _ _ h
          | bk => rfl
          | rt v => rfl
        | exc _ _ _ => rfl
        | fail => rfl
    | exc _ _ _ => rfl
    | fail => rfl
theorem sWhile_of {n : Nat} (h : whileN c b w n σ st ≠ .fail) : sWhile c b w σ st = whileN c b w n σ st := by
  have e : ∃ n, whileN c b w n σ st ≠ .fail := ⟨n, h⟩
  unfold sWhile
  rw [dif_pos e]
  have h2 := Classical.choose_spec e
  rcases Nat.le_total n (Classical.choose e) with z | z
  · obtain ⟨k, hk⟩ := Nat.le.dest z
    rw [← hk]
    exact whileN_more n k σ st h
  · obtain ⟨k, hk⟩ := Nat.le.dest z
    rw [← hk]
    exact (whileN_more _ k σ st h2).symm
theorem wps_nf {s : Res (Fl × AE)} (h : (wpsX Xp) s N R B C) : s ≠ .fail := by
  rintro rfl
  exact nwsF h
theorem wps_while (I : Nat → AE → Store → Prop) (hs : ∀ n σ st, I n σ st → (wpX Xp) (c σ st) fun k st1 => cnd k ((wpsX Xp) (b σ st1) (fun σ2 st2 => ∃ m, m < n ∧ I m (wipeA σ2 w) st2) R (fun σ2 st2 => N (wipeA σ2 w) st2) (fun σ2 st2 => ∃ m, m < n ∧ I m (wipeA σ2 w) st2)) (N σ st1)) (n : Nat) (h : I n σ st) : (wpsX Xp) (sWhile c b w σ st) N R B C := by
  have key : ∀ n σ st, I n σ st → (wpsX Xp) (whileN c b w (n + 1) σ st) N R B C := by
    intro n
    induction n using Nat.strongRecOn with
    | ind n ih =>
      intro σ st h
      have h1 := hs n σ st h
      unfold whileN
      cases q : c σ st with
      | ok t st1 =>
        rw [q] at h1
        simp only [wp_ok] at h1
        simp only [Res.bind]
        cases t with
        | false => simp only [cnd_false] at h1; exact wps_nx.mpr h1
        | true =>
          simp only [cnd_true] at h1
          simp only [if_true]
          have go : ∀ σ2 st2, (∃ m, m < n ∧ I m (wipeA σ2 w) st2) → (wpsX Xp) (whileN c b w n (wipeA σ2 w) st2) N R B C := by
            rintro σ2 st2 ⟨m, hm, hI⟩
            have h2 := ih m hm _ _ hI
            obtain ⟨k, hk⟩ := Nat.le.dest (show m + 1 ≤ n by omega)
            rw [← hk, whileN_more _ _ _ _ (wps_nf h2)]
            exact h2
          cases q2 : b σ st1 with
          | ok r st2 =>
            rw [q2] at h1
            obtain ⟨fl, σ2⟩ := r
            cases fl with
            | nx => have h2 := wps_nx.mp h1; exact go _ _ h2
            | ct => have h2 := wps_ct.mp h1; exact go _ _ h2
            | bk => have h2 := wps_bk.mp h1; exact wps_nx.mpr h2
            | rt v => have h2 := wps_rt.mp h1; exact wps_rt.mpr h2
          | exc _ _ _ => rw [q2, wps_exc] at h1; exact wps_exc.mpr h1
          | fail => rw [q2] at h1; exact (nwsF h1).elim
      | exc _ _ _ => rw [q, wp_exc] at h1; exact wps_exc.mpr h1
      | fail => rw [q] at h1; exact (nwF h1).elim
  have h2 := key n σ st h
  rw [sWhile_of (wps_nf h2)]
  exact h2
theorem wps_forRo {t : DT} {hi lo : Int} (P : Int → AE → Store → Prop) (hs : ∀ I : Int → AE → Store → Prop, (∀ i σ st, P i σ st → I i σ st) → ∀ i σ st, P i σ st → i < hi → (wpX Xp) (t (.int i) σ st) fun σ1 st1 => (wpsX Xp) (b σ1 st1) (fun σ2 st2 => I (i + 1) (wipeA σ2 w) st2) R (fun σ2 st2 => N (wipeA σ2 w) st2) (fun σ2 st2 => I (i + 1) (wipeA σ2 w) st2))
    (hf : ∀ i σ st, P i σ st → hi ≤ i → N (wipeA σ w) st) (h : P lo σ st) : (wpsX Xp) (forL t b w (fun _ => true) (rgP lo hi) σ st) N R B C := wps_forR P (hs P fun _ _ _ h => h) hf lo σ st h
theorem wps_forLo {t : DT} (P : List PV → AE → Store → Prop) (l : List PV) (hs : ∀ I : List PV → AE → Store → Prop, (∀ i σ st, P i σ st → I i σ st) → ∀ p r σ st, P (p :: r) σ st → (wpX Xp) (t p σ st) fun σ1 st1 => (wpsX Xp) (b σ1 st1) (fun σ2 st2 => I r (wipeA σ2 w) st2) R (fun σ2 st2 => N (wipeA σ2 w) st2) (fun σ2 st2 => I r (wipeA σ2 w) st2))
    (hf : ∀ σ st, P [] σ st → N (wipeA σ w) st) (h : P l σ st) : (wpsX Xp) (forL t b w (fun _ => true) l σ st) N R B C := wps_forL P l σ st h (hs P fun _ _ _ h => h) hf
theorem wps_forM {α : Type} {g : α → PV} {t : DT} (P : List α → AE → Store → Prop) (l : List α) (hs : ∀ I : List α → AE → Store → Prop, (∀ i σ st, P i σ st → I i σ st) → ∀ p r σ st, P (p :: r) σ st → (wpX Xp) (t (g p) σ st) fun σ1 st1 => (wpsX Xp) (b σ1 st1) (fun σ2 st2 => I r (wipeA σ2 w) st2) R (fun σ2 st2 => N (wipeA σ2 w) st2) (fun σ2 st2 => I r (wipeA σ2 w) st2))
    (hf : ∀ σ st, P [] σ st → N (wipeA σ w) st) (h : P l σ st) : (wpsX Xp) (forL t b w (fun _ => true) (l.map g) σ st) N R B C := by
  refine wps_forL (fun m σ st => ∃ r, m = r.map g ∧ P r σ st) _ σ st ⟨l, rfl, h⟩ ?_ ?_
  · rintro p m σ st ⟨r, e, h⟩
    cases r with
    | nil => cases e
    | cons a r =>
      cases e
      refine wp_mono (hs P (fun _ _ _ h => h) a r σ st h) fun σ1 st1 h => ?_
      exact wps_mono h (fun σ st h => ⟨_, rfl, h⟩) (fun _ _ h => h) (fun _ _ h => h) (fun σ st h => ⟨_, rfl, h⟩)
  · rintro σ st ⟨r, e, h⟩
    cases r with
    | nil => exact hf σ st h
    | cons a r => cases e
theorem wps_whileO (P : Nat → AE → Store → Prop) (hs : ∀ I : Nat → AE → Store → Prop, (∀ i σ st, P i σ st → I i σ st) → ∀ n σ st, P n σ st → (wpX Xp) (c σ st) fun k st1 => cnd k ((wpsX Xp) (b σ st1) (fun σ2 st2 => ∃ m, m < n ∧ I m (wipeA σ2 w) st2) R (fun σ2 st2 => N (wipeA σ2 w) st2) (fun σ2 st2 => ∃ m, m < n ∧ I m (wipeA σ2 w) st2)) (N σ st1)) (n : Nat) (h : P n σ st) : (wpsX Xp) (sWhile c b w σ st) N R B C :=
  wps_while P (hs P fun _ _ _ h => h) n h
theorem wp_lcM {α : Type} {g : α → PV} {t : DT} {c : DB} {e : DE} {QL : List PV → Store → Prop} (P : List α → List PV → Store → Prop) (l : List α) (st : Store)
    (hs : ∀ I : List α → List PV → Store → Prop, (∀ i σ st, P i σ st → I i σ st) → ∀ p r acc st, P (p :: r) acc st → wpX EF (t (g p) σ st) fun σ1 st1 => wpX EF (c σ1 st1) fun b st2 => cnd b (wpX EF (e σ1 st2) fun v st3 => I r (acc ++ [v]) st3) (I r acc st2))
    (hf : ∀ acc st, P [] acc st → QL acc st) (h : P l [] st) : (wpX Xp) (lcI t c e (fun _ => true) σ (l.map g) st) QL := by
  refine wp_lcI (fun acc m st => ∃ r, m = r.map g ∧ P r acc st) _ st ⟨l, rfl, h⟩ ?_ ?_
  · rintro acc p m st ⟨r, e, h⟩
    cases r with
    | nil => cases e
    | cons a r =>
      cases e
      refine wp_mono (hs P (fun _ _ _ h => h) a r acc st h) fun σ1 st1 h => wp_mono h fun b st2 h => ?_
      cases b with
      | true =>
        simp only [cnd_true] at h ⊢
        exact wp_mono h fun v st3 h => ⟨r, rfl, h⟩
      | false =>
        simp only [cnd_false] at h ⊢
        exact ⟨r, rfl, h⟩
  · rintro acc st ⟨r, e, h⟩
    cases r with
    | nil => exact hf acc st h
    | cons a r => cases e
theorem wp_lcF {α : Type} {g : α → PV} {t : DT} {c : DB} {e : DE} {QL : List PV → Store → Prop} (keep : α → Bool) (v : α → PV) (l : List α)
    (hs : ∀ p ∈ l, wpX EF (t (g p) σ st) fun σ1 st1 => wpX EF (c σ1 st1) fun b st2 => st2 = st ∧ b = keep p ∧ (b = true → wpX EF (e σ1 st2) fun u st3 => u = v p ∧ st3 = st)) (hf : QL ((l.filter keep).map v) st) : (wpX Xp) (lcI t c e (fun _ => true) σ (l.map g) st) QL := by
  refine wp_lcM (fun r acc st' => st' = st ∧ acc ++ (r.filter keep).map v = (l.filter keep).map v ∧ ∀ p ∈ r, p ∈ l) l st ?_ ?_ ⟨rfl, by simp, fun p h => h⟩
  · rintro I hI p r acc st' ⟨rfl, h1, h2⟩
    refine wp_mono (hs p (h2 p List.mem_cons_self)) fun σ1 st1 h => wp_mono h fun b st2 ⟨e1, e2, h⟩ => ?_
    subst e1
    cases b with
    | true =>
      simp only [cnd_true]
      refine wp_mono (h rfl) fun u st3 ⟨e3, e4⟩ => ?_
      subst e3 e4
      refine hI _ _ _ ⟨rfl, ?_, fun q hq => h2 q (List.mem_cons_of_mem _ hq)⟩
      rw [← h1, List.filter_cons, ← e2, if_pos rfl]
      simp
    | false =>
      simp only [cnd_false]
      refine hI _ _ _ ⟨rfl, ?_, fun q hq => h2 q (List.mem_cons_of_mem _ hq)⟩
      rw [← h1, List.filter_cons, ← e2]
      simp
  · rintro acc st' ⟨rfl, h1, _⟩
    simp only [List.filter_nil, List.map_nil, List.append_nil] at h1
    rw [h1]
    exact hf
@[simp] theorem wp_bYes : (wpX Xp) (bYes σ st) QB = QB true st := by unfold wpX; rfl
theorem wp_lcA {α : Type} {g : α → PV} {t : DT} {e : DE} {QL : List PV → Store → Prop} (v : α → PV) (l : List α)
    (hs : ∀ p ∈ l, wpX EF (t (g p) σ st) fun σ1 st1 => st1 = st ∧ wpX EF (e σ1 st1) fun u st3 => u = v p ∧ st3 = st) (hf : QL (l.map v) st) : (wpX Xp) (lcI t bYes e (fun _ => true) σ (l.map g) st) QL := by
  have ef : l.filter (fun _ => true) = l := List.filter_eq_self.mpr fun _ _ => rfl
  refine wp_lcF (fun _ => true) v l (fun p hp => wp_mono (hs p hp) fun σ1 st1 h => ?_) (by rw [ef]; exact hf)
  simp only [wp_bYes]
  exact ⟨h.1, trivial, fun _ => h.2⟩
theorem rgP_nat (n : Nat) : rgP 0 n = (List.range n).map fun i => PV.int (i : Nat) := by
  unfold rgP
  simp
variable {κ α : Type} [DecidableEq κ]
theorem find_map {es : List (κ × α)} {k k' : κ} {v : α} : ((es.map fun e => if e.1 = k then (e.1, v) else e).find? fun e => decide (e.1 = k')) = (es.find? fun e => decide (e.1 = k')).map fun e => if e.1 = k then (e.1, v) else e := by
  induction es with
  | nil => rfl
  | cons e es ih =>
    simp only [List.map_cons, List.find?_cons]
    by_cases h : e.1 = k
    · rw [if_pos h]
      by_cases h2 : e.1 = k'
      · have z : k = k' := h.symm.trans h2
        subst z
        simp [h]
      · simp [h2, ih]
    · rw [if_neg h]
      by_cases h2 : e.1 = k'
      · simp [h2]
        intro z; exact absurd (h2.trans z) h
      · simp [h2, ih]
theorem look_putA {es : List (κ × α)} {k k' : κ} {v : α} : look (putA es k v) k' = if k = k' then some v else look es k' := by
  unfold putA look
  split
  · rename_i h
    rw [find_map]
    obtain ⟨e, he, hk⟩ := List.any_eq_true.mp h
    rw [decide_eq_true_eq] at hk
    by_cases z : k = k'
    · subst z
      rw [if_pos rfl]
      cases q : es.find? fun e => decide (e.1 = k) with
      | none =>
        rw [List.find?_eq_none] at q
        exact absurd (q e he) (by simp [hk])
      | some e' =>
        have := List.find?_some q
        rw [decide_eq_true_eq] at this
        simp [this]
    · rw [if_neg z]
      cases q : es.find? fun e => decide (e.1 = k') with
      | none => rfl
      | some e' =>
        have := List.find?_some q
        rw [decide_eq_true_eq] at this
        simp only [Option.map_some, Option.some.injEq]
        rw [if_neg (fun h => z (h.symm.trans this))]
  · rename_i h
    simp only [Bool.not_eq_true] at h
    rw [List.find?_append]
    by_cases z : k = k'
    · subst z
      rw [if_pos rfl]
      cases q : es.find? fun e => decide (e.1 = k) with
      | none => simp
      | some e' =>
        have h2 := List.find?_some q
        have h3 := List.mem_of_find?_eq_some q
        rw [List.any_eq_false] at h
        exact absurd h2 (h e' h3)
    · rw [if_neg z]
      cases q : es.find? fun e => decide (e.1 = k') with
      | none => simp [z]
      | some e' => simp
theorem putA_len {es : List (κ × α)} {k : κ} {v : α} : (putA es k v).length ≤ es.length + 1 := by
  unfold putA
  split <;> simp
theorem putA_vals {es : List (κ × α)} {k : κ} {v : α} {p : α → Prop} (h : ∀ e ∈ es, p e.2) (hv : p v) : ∀ e ∈ putA es k v, p e.2 := by
  unfold putA
  split
  · intro e he
    obtain ⟨e', h1, rfl⟩ := List.mem_map.mp he
    split
    · exact hv
    · exact h e' h1
  · intro e he
    rcases List.mem_append.mp he with z | z
    · exact h e z
    · simp at z; subst z; exact hv
theorem wp_pop1 {l : List PV} {n k : Nat} {y : PV} (h : st[n]? = some (.lst l)) (hk : l[k]? = some y) (hb : k < 1000000) (q : Q y (st.set n (.lst (l.eraseIdx k)))) : (wpX Xp) (mPop1 (.ref n) [.int k] st) Q := by
  have hl : k < l.length := (List.getElem?_eq_some_iff.mp hk).1
  have e : seqIndex? (k : Int) l.length = some k := by
    unfold seqIndex?
    simp
    omega
  simp only [mPop1, refL, h, e, hk, mPop1.B63]
  rw [if_pos (by omega)]
  exact wp_ok.mpr q
end
def dab : Nat → PV → Bool
  | _, .non => true
  | _, .bl _ => true
  | _, .int _ => true
  | _, .str x => PyData.strOk x
  | n + 1, .tup l => l.all (dab n)
  | n + 1, .lst l => l.all (dab n)
  | _, _ => false
theorem dab_d : ∀ (n : Nat) (p : PV), dab n p = true → ∃ d, toD0 p = some d ∧ PyData.canLay0 d = true ∧ PyData.depth d ≤ n := by
  intro n
  induction n with
  | zero =>
    intro p h
    cases p <;> simp [dab] at h <;> simp_all [toD0, PyData.canLay0, PyData.depth]
  | succ n ih =>
    intro p h
    cases p with
    | tup l =>
      simp only [dab, List.all_eq_true] at h
      obtain ⟨ds, e, r⟩ := toD0s_of (l := l) fun p hp => ih p (h p hp)
      have z := canLayAll_of r
      exact ⟨.tuple ds, by simp [toD0, e], by simpa [PyData.canLay0] using z.1, by simpa [PyData.depth] using z.2⟩
    | lst l =>
      simp only [dab, List.all_eq_true] at h
      obtain ⟨ds, e, r⟩ := toD0s_of (l := l) fun p hp => ih p (h p hp)
      have z := canLayAll_of r
      exact ⟨.list ds, by simp [toD0, e], by simpa [PyData.canLay0] using z.1, by simpa [PyData.depth] using z.2⟩
    | _ => simp [dab] at h <;> simp_all [toD0, PyData.canLay0, PyData.depth]
theorem dab_mono : ∀ {n m : Nat} {p : PV}, n ≤ m → dab n p = true → dab m p = true := by
  intro n
  induction n with
  | zero => intro m p _ h; cases p <;> simp [dab] at h <;> cases m <;> simp [dab, h]
  | succ n ih =>
    intro m p hm h
    cases m with
    | zero => omega
    | succ m =>
      cases p with
      | tup l => simp only [dab, List.all_eq_true] at h ⊢; exact fun q hq => ih (by omega) (h q hq)
      | lst l => simp only [dab, List.all_eq_true] at h ⊢; exact fun q hq => ih (by omega) (h q hq)
      | _ => first | (simp [dab] at h; done) | simpa [dab] using h
mutual
theorem toD0_cl : ∀ {p : PV} {d : PyData}, toD0 p = some d → cl p = true
  | .non, _, _ => by simp
  | .bl _, _, _ => by simp
  | .int _, _, _ => by simp
  | .str _, _, _ => by simp
  | .tup l, d, h => by
    simp only [toD0] at h
    obtain ⟨ds, e, _⟩ := Option.map_eq_some_iff.mp h
    simpa using toD0s_cl e
  | .lst l, d, h => by
    simp only [toD0] at h
    obtain ⟨ds, e, _⟩ := Option.map_eq_some_iff.mp h
    simpa using toD0s_cl e
  | .scr l, d, h => by
    simp only [toD0] at h
    obtain ⟨ds, e, _⟩ := Option.map_eq_some_iff.mp h
    simpa [cl] using toD0s_cl e
  | .dK _ _, _, h => by simp [toD0] at h
  | .dT _ _, _, h => by simp [toD0] at h
  | .ref _, _, h => by simp [toD0] at h
  | .con _, _, h => by simp [toD0] at h
  | .ty _, _, h => by simp [toD0] at h
  | .err _ _, _, h => by simp [toD0] at h
  | .fnv _, _, h => by simp [toD0] at h
theorem toD0s_cl : ∀ {l : List PV} {ds : List PyData}, toD0s l = some ds → cls l = true
  | [], _, _ => by simp
  | p :: l, ds, h => by
    simp only [toD0s] at h
    obtain ⟨d, e1, h⟩ := Option.bind_eq_some_iff.mp h
    obtain ⟨ds', e2, _⟩ := Option.map_eq_some_iff.mp h
    simp [toD0_cl e1, toD0s_cl e2]
end
theorem dab_cl {n : Nat} {p : PV} (h : dab n p = true) : cl p = true := by
  obtain ⟨d, e, _⟩ := dab_d n p h
  exact toD0_cl e
section
variable {Q : PV → Store → Prop} {st : Store} {p : PV} {n : Nat}
theorem wp_eqNil {l : List PV} (h : l.all (dab 20) = true) : (wpX Xp) (pEq (.lst l) (.lst []) st) Q = Q (.bl l.isEmpty) st := by
  have h' : dab 21 (.lst l) = true := by simpa [dab] using h
  obtain ⟨d, e, c, z⟩ := dab_d 21 _ h'
  simp only [toD0] at e
  obtain ⟨ds, e9, rfl⟩ := Option.map_eq_some_iff.mp e
  clear e
  have h1 : toD (.lst l) st = some (.list ds) := by simp [toD, toD0, e9]
  have h2 : toD (.lst []) st = some (.list []) := by simp [toD, toD0, toD0s]
  have h3 := shaped_of c (by omega)
  have h4 : SeqAt.shaped (.list []) = true := shaped_of (by simp [PyData.canLay0, PyData.canLayAll0]) (by simp [PyData.depth, PyData.depthAll])
  have h5 : PyData.eqv (.list ds) (.list []) = l.isEmpty := by
    cases l with
    | nil => simp [toD0s] at e9; subst e9; simp [PyData.eqv, PyData.eqvAll]
    | cons a l =>
      simp only [toD0s] at e9
      obtain ⟨d, _, e9⟩ := Option.bind_eq_some_iff.mp e9
      obtain ⟨ds', _, rfl⟩ := Option.map_eq_some_iff.mp e9
      simp [PyData.eqv, PyData.eqvAll]
  simp only [pEq, pEqB, h1, h2, h3, h4, h5, and_self, if_true, Res.bind, wp_ok]
theorem wp_neNil {l : List PV} (h : l.all (dab 20) = true) : (wpX Xp) (pNe (.lst l) (.lst []) st) Q = Q (.bl (!l.isEmpty)) st := by
  have := wp_eqNil (Xp := Xp) (st := st) (Q := fun v st => ∃ b, v = .bl b ∧ Q (.bl (!b)) st) h
  simp only [pEq, wp_bind, wp_ok, PV.bl.injEq, exists_eq_left'] at this
  simp only [pNe, wp_bind, wp_ok]
  exact this
def isTp : PV → Bool
  | .tup _ => true
  | _ => false
def isIn : PV → Bool
  | .int _ => true
  | .bl _ => true
  | _ => false
def isBo : PV → Bool
  | .bl _ => true
  | _ => false
def isSt : PV → Bool
  | .str _ => true
  | _ => false
theorem wp_isTup (h : dab n p = true) : (wpX Xp) (qIsI [p, .ty "tuple"] st) Q = Q (.bl (isTp p)) st := by
  cases p <;> cases n <;> simp [dab] at h <;> (unfold wpX; rfl)
theorem wp_isInt (h : dab n p = true) : (wpX Xp) (qIsI [p, .ty "int"] st) Q = Q (.bl (isIn p)) st := by
  cases p <;> cases n <;> simp [dab] at h <;> (unfold wpX; rfl)
theorem wp_isBool (h : dab n p = true) : (wpX Xp) (qIsI [p, .ty "bool"] st) Q = Q (.bl (isBo p)) st := by
  cases p <;> cases n <;> simp [dab] at h <;> (unfold wpX; rfl)
theorem wp_isStr (h : dab n p = true) : (wpX Xp) (qIsI [p, .ty "str"] st) Q = Q (.bl (isSt p)) st := by
  cases p <;> cases n <;> simp [dab] at h <;> (unfold wpX; rfl)
end
end DN
set_option maxHeartbeats 4000000
namespace DN
open PySem PySem.Spec PyProof.Rows L2
def aLt : Key → Key → Bool
  | .inl i, .inl j => decide (i < j)
  | .inr x, .inr y => decide (x.cps.toList < y.cps.toList)
  | .inl _, .inr _ => true
  | .inr _, .inl _ => false
def kLt : List Key → List Key → Bool
  | _, [] => false
  | [], _ :: _ => true
  | x :: xs, y :: ys => if x = y then kLt xs ys else aLt x y
theorem str_ext {x y : Str} (h : x.cps.toList = y.cps.toList) : x = y := by
  cases x; cases y
  simp only [Str.mk.injEq]
  exact Array.toList_inj.mp h
theorem aLt_asym : ∀ {x y : Key}, aLt x y = true → aLt y x = false
  | .inl i, .inl j, h => by simp only [aLt, decide_eq_true_eq, decide_eq_false_iff_not] at h ⊢; omega
  | .inr x, .inr y, h => by
    simp only [aLt, decide_eq_true_eq, decide_eq_false_iff_not] at h ⊢
    exact List.lt_asymm h
  | .inl _, .inr _, _ => rfl
  | .inr _, .inl _, h => by cases h
theorem aLt_tri : ∀ {x y : Key}, aLt x y = false → aLt y x = false → x = y
  | .inl i, .inl j, h, g => by
    simp only [aLt, decide_eq_false_iff_not] at h g
    have : i = j := by omega
    rw [this]
  | .inr x, .inr y, h, g => by
    simp only [aLt, decide_eq_false_iff_not] at h g
    rw [str_ext (List.le_antisymm (List.not_lt.mp g) (List.not_lt.mp h))]
  | .inl _, .inr _, h, _ => by cases h
  | .inr _, .inl _, _, g => by cases g
theorem aLt_trans : ∀ {x y z : Key}, aLt x y = true → aLt y z = true → aLt x z = true
  | .inl i, .inl j, .inl k, h, g => by simp only [aLt, decide_eq_true_eq] at h g ⊢; omega
  | .inr x, .inr y, .inr z, h, g => by
    simp only [aLt, decide_eq_true_eq] at h g ⊢
    exact List.lt_trans h g
  | .inl _, .inl _, .inr _, _, _ => rfl
  | .inl _, .inr _, .inr _, _, _ => rfl
  | .inl _, .inr _, .inl _, _, g => by cases g
  | .inr _, .inl _, _, h, _ => by cases h
  | .inr _, .inr _, .inl _, _, g => by cases g
theorem kLt_asym : ∀ {x y : List Key}, kLt x y = true → kLt y x = false
  | _, [], h => by simp [kLt] at h
  | [], _ :: _, _ => by simp [kLt]
  | x :: xs, y :: ys, h => by
    unfold kLt at h ⊢
    by_cases e : x = y
    · rw [if_pos e] at h
      rw [if_pos e.symm]
      exact kLt_asym h
    · rw [if_neg e] at h
      rw [if_neg (Ne.symm e)]
      exact aLt_asym h
theorem kLt_tri : ∀ {x y : List Key}, kLt x y = false → kLt y x = false → x = y
  | [], [], _, _ => rfl
  | _ :: _, [], _, g => by simp [kLt] at g
  | [], _ :: _, h, _ => by simp [kLt] at h
  | x :: xs, y :: ys, h, g => by
    unfold kLt at h g
    by_cases e : x = y
    · rw [if_pos e] at h
      rw [if_pos e.symm] at g
      rw [e, kLt_tri h g]
    · rw [if_neg e] at h
      rw [if_neg (Ne.symm e)] at g
      exact absurd (aLt_tri h g) e
theorem kLt_trans : ∀ {x y z : List Key}, kLt x y = true → kLt y z = true → kLt x z = true
  | _, [], _, h, _ => by simp [kLt] at h
  | _, _ :: _, [], _, g => by simp [kLt] at g
  | [], _ :: _, _ :: _, _, _ => by simp [kLt]
  | x :: xs, y :: ys, z :: zs, h, g => by
    unfold kLt at h g ⊢
    by_cases e : x = y
    · rw [if_pos e] at h
      by_cases e2 : y = z
      · rw [if_pos e2] at g
        rw [if_pos (e.trans e2)]
        exact kLt_trans h g
      · rw [if_neg e2] at g
        rw [if_neg (fun q => e2 (e.symm.trans q)), e]
        exact g
    · rw [if_neg e] at h
      by_cases e2 : y = z
      · rw [if_pos e2] at g
        rw [if_neg (fun q => e (q.trans e2.symm)), ← e2]
        exact h
      · rw [if_neg e2] at g
        have t := aLt_trans h g
        have n : x ≠ z := fun q => by
          rw [q] at h
          rw [aLt_asym h] at g
          cases g
        rw [if_neg n]
        exact t
theorem kLt_neg {x y z : List Key} (h : kLt y x = false) (g : kLt z y = false) : kLt z x = false := by
  cases q : kLt z x with
  | false => rfl
  | true =>
    cases p : kLt x y with
    | true => rw [kLt_trans q p] at g; cases g
    | false =>
      rw [kLt_tri p h] at q
      rw [q] at g; cases g
theorem kLt_swo {α : Type} (k : α → List Key) : SrtO.Swo fun v u => kLt (k v) (k u) := ⟨fun _ _ h => kLt_asym h, fun _ _ _ h g => kLt_neg h g⟩
def kins (k : List Key) : List (List Key) → List (List Key)
  | [] => [k]
  | j :: r => if kLt j k = true then j :: kins k r else k :: j :: r
def ksort : List (List Key) → List (List Key)
  | [] => []
  | k :: r => kins k (ksort r)
theorem kins_perm (k : List Key) : ∀ l, (kins k l).Perm (k :: l)
  | [] => .refl _
  | j :: r => by
    unfold kins
    split
    · exact ((kins_perm k r).cons j).trans (.swap k j r)
    · exact .refl _
theorem ksort_perm : ∀ l, (ksort l).Perm l
  | [] => .refl _
  | k :: r => (kins_perm k _).trans ((ksort_perm r).cons k)
theorem kins_sorted (k : List Key) : ∀ l : List (List Key), l.Pairwise (fun x y => kLt y x = false) → (kins k l).Pairwise fun x y => kLt y x = false
  | [], _ => by simp [kins]
  | j :: r, h => by
    unfold kins
    split
    · rename_i q
      refine List.pairwise_cons.mpr ⟨fun a ha => ?_, kins_sorted k r (List.pairwise_cons.mp h).2⟩
      rcases List.mem_cons.mp ((kins_perm k r).mem_iff.mp ha) with rfl | ha
      · exact kLt_asym q
      · exact (List.pairwise_cons.mp h).1 a ha
    · rename_i q
      simp only [Bool.not_eq_true] at q
      refine List.pairwise_cons.mpr ⟨fun a ha => ?_, h⟩
      rcases List.mem_cons.mp ha with rfl | ha
      · exact q
      · exact kLt_neg q ((List.pairwise_cons.mp h).1 a ha)
theorem ksort_sorted : ∀ l, (ksort l).Pairwise fun x y => kLt y x = false
  | [] => .nil
  | k :: r => kins_sorted k _ (ksort_sorted r)
theorem ksort_uniq {a b : List (List Key)} (p : a.Perm b) (ha : a.Pairwise fun x y => kLt y x = false) : a = ksort b :=
  (p.trans (ksort_perm b).symm).eq_of_pairwise (fun x y _ _ h1 h2 => kLt_tri h2 h1) ha (ksort_sorted b)
def okp : List Key → List Key → Bool
  | x :: xs, y :: ys => if x = y then okp xs ys else x.isLeft == y.isLeft
  | _, _ => true
def okh : List Key → List Key → Bool
  | x :: _, y :: _ => x.isLeft == y.isLeft
  | _, _ => false
def okKs (l : List (List Key)) : Bool := l.all fun k => l.all fun j => okp k j && okh k j
def KVal (k : Key) (v : Value) : Prop := match k with
  | .inl i => ∃ t, v = .int i t
  | .inr x => ∃ t, v = .str x t
inductive KVals : List Key → List Value → Prop
  | nil : KVals [] []
  | cons {k : Key} {v : Value} {ks : List Key} {vs : List Value} : KVal k v → KVals ks vs → KVals (k :: ks) (v :: vs)
theorem KVals.len : ∀ {ks : List Key} {vs : List Value}, KVals ks vs → vs.length = ks.length
  | _, _, .nil => rfl
  | _, _, .cons _ r => by simp [r.len]
theorem KVal.inj {k j : Key} {v : Value} (h : KVal k v) (g : KVal j v) : k = j := by
  cases k <;> cases j <;> (obtain ⟨t, rfl⟩ := h; obtain ⟨u, e⟩ := g; cases e) <;> rfl
theorem KVals.inj : ∀ {ks js : List Key} {vs : List Value}, KVals ks vs → KVals js vs → ks = js
  | _, _, _, .nil, .nil => rfl
  | _, _, _, .cons h r, .cons g t => by rw [h.inj g, r.inj t]
theorem kvals_of : ∀ {ks : List Key} {vs : List Value}, Vals (ks.map kV) vs → KVals ks vs
  | [], _, .nil => .nil
  | .inl _ :: _, _, .cons r t => .cons r (kvals_of t)
  | .inr _ :: _, _, .cons r t => .cons r (kvals_of t)
def IsTk (h : Heap) (v : Value) (ks : List Key) : Prop := ∃ a its, v = .ref a ∧ IsTup h a its ∧ KVals ks its.toList
theorem IsTk.inj {h : Heap} {v : Value} {ks js : List Key} (x : IsTk h v ks) (y : IsTk h v js) : ks = js := by
  obtain ⟨a, its, rfl, ⟨o, ho, _, n, hd⟩, r⟩ := x
  obtain ⟨a', its', e, ⟨o', ho', _, n', hd'⟩, r'⟩ := y
  cases e
  rw [ho] at ho'
  cases ho'
  rw [hd] at hd'
  injection hd' with d1 _
  subst d1
  exact r.inj r'
theorem IsTk.keeps {h h' : Heap} {v : Value} {ks : List Key} (p : IsTk h v ks) (kp : ∀ b o, h.get? b = some o → o.cls = .type "tuple" → h'.get? b = some o) : IsTk h' v ks := by
  obtain ⟨a, its, e, ⟨o, ho, hc, n, hd⟩, r⟩ := p
  exact ⟨a, its, e, ⟨o, kp _ _ ho hc, hc, n, hd⟩, r⟩
section
open Srt
variable {prog : Program} {w : World} {A : Around} {E : Value → Shared → Prop} {s : Shared}
theorem one_lt {b : Bool} {k j : Key} {v u : Value} {Q : Bool → Shared → Prop} (hv : KVal k v) (hu : KVal j u) (ok : (k.isLeft == j.isLeft) = true) (q : Q (aLt k j) s) : wpAny (model prog w) A (oneLt' b v u) Q E s := by
  cases k with
  | inl i =>
    cases j with
    | inl m =>
      obtain ⟨t, rfl⟩ := hv
      obtain ⟨t', rfl⟩ := hu
      cases b with
      | true => exact oneLt_int q
      | false => exact PySem.W.kat_one _ _ (PyProof.Rows.lt_int (Q := PySem.W.BoolBack Q) q)
    | inr y => cases ok
  | inr x =>
    cases j with
    | inl m => cases ok
    | inr y =>
      obtain ⟨t, rfl⟩ := hv
      obtain ⟨t', rfl⟩ := hu
      cases b with
      | true => exact oneLt_str q
      | false => exact PySem.W.kat_one _ _ (PyProof.Rows.lt_str (Q := PySem.W.BoolBack Q) q)
theorem eq_one {k j : Key} {v u : Value} {Q : Bool → Shared → Prop} {b fin : Bool} {r : List (Value × Value)} {i : Nat} (hv : KVal k v) (hu : KVal j u) (ok : (k.isLeft == j.isLeft) = true)
    (h1 : k = j → PySem.W.KatLex prog w A b fin Q r (i + 1) s) (h2 : k ≠ j → wpAny (model prog w) A (oneLt' (b && i == 0) v u) Q (fun _ _ => False) s) : PySem.W.KatLex prog w A b fin Q ((v, u) :: r) i s := by
  cases k with
  | inl x =>
    cases j with
    | inr y => cases ok
    | inl y =>
      obtain ⟨t, rfl⟩ := hv
      obtain ⟨t', rfl⟩ := hu
      refine PySem.W.kat_cons (SeqAt.EqAt.int_int x t y t' prog w _ _ ?_)
      refine PySem.W.kat_go (fun e => PySem.W.kat_yes (h1 ?_)) (fun e => PySem.W.kat_no (h2 ?_))
      · rw [show x = y by simpa using e]
      · intro z; cases z; simp at e
  | inr x =>
    cases j with
    | inl y => cases ok
    | inr y =>
      obtain ⟨t, rfl⟩ := hv
      obtain ⟨t', rfl⟩ := hu
      refine PySem.W.kat_cons (SeqAt.EqAt.str_str x t y t' prog w _ _ ?_)
      refine PySem.W.kat_go (fun e => PySem.W.kat_yes (h1 ?_)) (fun e => PySem.W.kat_no (h2 ?_))
      · rw [show x = y by simpa using e]
      · intro z; cases z; simp at e
theorem lex_keys {b : Bool} {Q : Bool → Shared → Prop} : ∀ {ks js : List Key} {xs ys : List Value} (i : Nat), KVals ks xs → KVals js ys → okp ks js = true → Q (kLt ks js) s → PySem.W.KatLex prog w A b (decide (ks.length < js.length)) Q (xs.zip ys) i s
  | _, [], xs, _, i, _, .nil, _, q => by
    rw [List.zip_nil_right]
    refine PySem.W.kat_nil ?_
    simpa [kLt] using q
  | [], j :: js, _, _, i, .nil, _, _, q => by
    rw [List.zip_nil_left]
    refine PySem.W.kat_nil ?_
    simpa [kLt] using q
  | k :: ks, j :: js, x :: xs, y :: ys, i, .cons hv r, .cons hu t, ok, q => by
    rw [List.zip_cons_cons]
    unfold okp at ok
    unfold kLt at q
    have el : decide ((k :: ks).length < (j :: js).length) = decide (ks.length < js.length) := by simp
    rw [el]
    by_cases e : k = j
    · rw [if_pos e] at ok q
      refine eq_one hv hu (by rw [e]; simp) (fun _ => lex_keys (i + 1) r t ok q) fun n => (n e).elim
    · rw [if_neg e] at ok q
      exact eq_one hv hu ok (fun z => (e z).elim) fun _ => one_lt hv hu ok q
theorem tk_cmp {vs : List Value} {k : Value → List Key} (hp : ∀ v ∈ vs, IsTk s.heap v (k v)) (hok : ∀ v ∈ vs, ∀ u ∈ vs, okp (k v) (k u) = true) : SrtO.Cmp prog w A s (tuples' true) (fun p => p.1 ∈ vs) (SrtO.lt2 fun v u => kLt (k v) (k u)) := by
  intro p q hm hm'
  obtain ⟨a, its, e, ⟨o, ho, hc, n, hd⟩, r⟩ := hp _ hm
  obtain ⟨a', its', e', ⟨o', ho', hc', n', hd'⟩, r'⟩ := hp _ hm'
  rw [e, e']
  have hk := hok _ hm _ hm'
  refine PySem.W.kat_lt ho hd ho' hd' ?_
  have z : decide (its.size < its'.size) = decide ((k p.1).length < (k q.1).length) := by rw [← r.len, ← r'.len]; simp
  rw [z]
  refine lex_keys 0 r r' hk ⟨rfl, ?_⟩
  show _ = kLt (k p.1) (k q.1)
  rfl
theorem tk_firsts {h : Heap} {k : Value → List Key} {b : Bool} : ∀ {vs : List Value}, (∀ v ∈ vs, IsTk h v (k v)) → (∀ v ∈ vs, ∃ x r, k v = x :: r ∧ x.isLeft = b) → ∃ fs : List Value, PySem.W.KatTups h vs fs ∧ fs.length = vs.length ∧ ∀ f ∈ fs, ∃ x : Key, x.isLeft = b ∧ KVal x f
  | [], _, _ => ⟨[], PySem.W.KatTups.nil, rfl, fun _ hm => by simp at hm⟩
  | v :: vs, hp, hk => by
    obtain ⟨fs, h1, h2, h3⟩ := tk_firsts (vs := vs) (fun u hm => hp u (List.mem_cons_of_mem _ hm)) fun u hm => hk u (List.mem_cons_of_mem _ hm)
    obtain ⟨a, its, e, ⟨o, ho, hc, n, hd⟩, r⟩ := hp v List.mem_cons_self
    obtain ⟨x, rr, ex, hb⟩ := hk v List.mem_cons_self
    rw [ex] at r
    subst e
    cases hi : its.toList with
    | nil => rw [hi] at r; cases r
    | cons f l =>
      rw [hi] at r
      cases r with
      | cons hf hr =>
        have h0 : its[0]? = some f := by rw [← Array.getElem?_toList, hi]; rfl
        refine ⟨f :: fs, PySem.W.KatTups.cons ho hc hd h0 h1, by simp [h2], fun g hg => ?_⟩
        rcases List.mem_cons.mp hg with rfl | hg
        · exact ⟨x, hb, hf⟩
        · exact h3 g hg
theorem tk_sortable {a : Addr} {vs : List Value} {k : Value → List Key} (h2 : 2 ≤ vs.length) (hp : ∀ v ∈ vs, IsTk s.heap v (k v)) (hok : ∀ v ∈ vs, ∀ u ∈ vs, okp (k v) (k u) = true ∧ okh (k v) (k u) = true) (ha : ∀ o, s.heap.get? a = some o → o.cls ≠ .type "tuple") :
    SrtO.SortableO prog w A s a vs fun v u => kLt (k v) (k u) := by
  intro h' keep
  have hp' : ∀ v ∈ vs, IsTk h' v (k v) := fun v hm => (hp v hm).keeps fun b o e c => keep b o (fun z => by subst z; exact ha o e c) e
  obtain ⟨v0, hv0⟩ : ∃ v, v ∈ vs := by
    cases vs with
    | nil => simp at h2
    | cons v l => exact ⟨v, List.mem_cons_self⟩
  have hd : ∃ b : Bool, ∀ v ∈ vs, ∃ x r, k v = x :: r ∧ x.isLeft = b := by
    have g0 := (hok v0 hv0 v0 hv0).2
    cases e0 : k v0 with
    | nil => rw [e0] at g0; cases g0
    | cons x0 r0 =>
      refine ⟨x0.isLeft, fun v hv => ?_⟩
      have g := (hok v hv v0 hv0).2
      rw [e0] at g
      cases e : k v with
      | nil => rw [e] at g; cases g
      | cons x r =>
        rw [e] at g
        exact ⟨x, r, rfl, by simpa [okh] using g⟩
  obtain ⟨b, hd⟩ := hd
  obtain ⟨fs, h1, h3, h4⟩ := tk_firsts hp' hd
  refine ⟨tuples' true, fun Q E hq => ?_, tk_cmp hp' fun v hv u hu => (hok v hv u hu).1⟩
  cases b with
  | true =>
    refine PySem.W.kat_kind (T := .type "int") h1 (by omega) (fun f hm => ?_) (by rfl) ?_
    · obtain ⟨x, hx, hf⟩ := h4 f hm
      cases x with
      | inl i => obtain ⟨t, rfl⟩ := hf; exact PySem.W.Looks.now
      | inr i => cases hx
    · rw [show (Value.type "int" != Value.type "tuple") = true by first | decide +kernel | rfl]
      exact hq
  | false =>
    refine PySem.W.kat_kind (T := .type "str") h1 (by omega) (fun f hm => ?_) (by rfl) ?_
    · obtain ⟨x, hx, hf⟩ := h4 f hm
      cases x with
      | inr i => obtain ⟨t, rfl⟩ := hf; exact PySem.W.Looks.now
      | inl i => cases hx
    · rw [show (Value.type "str" != Value.type "tuple") = true by first | decide +kernel | rfl]
      exact hq
theorem collectT {l : Addr} {vs : List Value} {Q : List Value → Shared → Prop} (ht : IsTup s.heap l vs.toArray) (hz : vs.length ≤ sizeLine)
    (h : Q vs { s with heap := (s.heap.push (seqObj "list" #[] 0)).update s.heap.objs.size (Obj.mapSeq (· ++ vs.toArray)) }) : wpAny (model prog w) A (collect (.ref l)) Q E s := by
  obtain ⟨o, ho, hc, n, hd⟩ := ht
  have ho' : (s.heap.push (seqObj "list" #[] 0)).get? l = some o := Heap.get?_push_of_some _ ho
  unfold collect
  refine wpAny_bind (wpAny_runValue (codeAny_builtin entry_proto_collect' (wpAny_bind (wpAny_newList (wpAny_pure ⟨Code.quiet_builtin _ (by decide +kernel), codeAny_builtin entry_list_iadd' ?_⟩) (Nat.zero_le _)))))
  show wpAny _ _ (Builtin.List.listExtendWith (.ref s.heap.objs.size) (.ref l) (.ref s.heap.objs.size)) _ _ { heap := s.heap.push (seqObj "list" #[] 0), gens := s.gens, drawn := s.drawn, toks := s.toks, os := s.os }
  unfold Builtin.List.listExtendWith
  refine wpAny_bind (wpAny_typeOf (T := "tuple") ⟨o, ho', hc⟩ ?_)
  rw [if_pos (by first | rfl | decide +kernel | simp)]
  refine wpAny_bind (listItems_at ho' hd (wpAny_bind (listItems_at (xs := #[]) (n := 0) (Heap.get?_push_size _ rfl) rfl ?_)))
  rw [if_neg (by simp)]
  refine wpAny_bind (listUpdate_at (xs := #[]) (n := 0) (Heap.get?_push_size _ rfl) rfl (wpAny_pure ?_) (Nat.zero_le _) (by simp only [Array.size_append, List.size_toArray]; show 0 + vs.length ≤ _; omega))
  refine wpAny_bind (wpAny_load (get?_update_seq (Heap.get?_push_size _ rfl) _) ?_)
  have e : ((#[] : Array Value) ++ vs.toArray).toList = vs := by simp
  show wpAny _ _ (pure ((#[] : Array Value) ++ vs.toArray).toList) Q E _
  rw [e]
  exact wpAny_pure h
theorem sortedT {l : Addr} {vs : List Value} {ltv : Value → Value → Bool} {Q : Value → Shared → Prop} (O : SrtO.Swo ltv) (ht : IsTup s.heap l vs.toArray) (hz : vs.length ≤ sizeLine)
    (hS : 2 ≤ vs.length → ∀ (h₁ : Heap) (a : Addr), h₁.get? a = some (seqObj "list" vs.toArray 0) → (∀ b o, s.heap.get? b = some o → b ≠ a ∧ h₁.get? b = some o) → SrtO.SortableO prog w A.in1.in1 { s with heap := h₁ } a vs ltv)
    (h : ∀ out : List Value, SrtO.Srtd ltv out → SrtO.Stb ltv out vs → Q (.ref (s.heap.objs.size + 1)) { s with heap := sortedAll s.heap vs out.toArray }) : wpAny (model prog w) A (call (.builtin "sorted") [.ref l]) Q E s := by
  refine Calls.call_function_entry kind_sorted plain_sorted entry_sorted (args_sorted1 _) ?go
  unfold Builtin.«sorted»
  refine wpAny_bind (m := checkCount "sorted" 1 1 _) (wpAny_pure (wpAny_bind (collectT ht hz (wpAny_bind (wpAny_newList ?_ hz)))))
  generalize e0 : (s.heap.push (seqObj "list" #[] 0)).update s.heap.objs.size (Obj.mapSeq (· ++ vs.toArray)) = h0
  have z0 : h0.objs.size = s.heap.objs.size + 1 := by rw [← e0, Heap.size_update, size_push']
  have a0 : (h0.push (seqObj "list" vs.toArray 0)).get? (s.heap.objs.size + 1) = some (seqObj "list" vs.toArray 0) := by rw [← z0]; exact Heap.get?_push_size _ rfl
  have k0 : ∀ b o, s.heap.get? b = some o → b ≠ s.heap.objs.size + 1 ∧ (h0.push (seqObj "list" vs.toArray 0)).get? b = some o := fun b o q => by
    have lt : b < s.heap.objs.size := Heap.lt_size q
    refine ⟨Nat.ne_of_lt (Nat.lt_succ_of_lt lt), Heap.get?_push_of_some _ ?_⟩
    rw [← e0, Heap.get?_update_ne _ _ _ _ (Nat.ne_of_lt lt)]
    exact Heap.get?_push_of_some _ q
  show wpAny _ _ _ _ _ { heap := h0.push (seqObj "list" vs.toArray 0), gens := s.gens, drawn := s.drawn, toks := s.toks, os := s.os }
  rw [z0]
  refine wpAny_bind (wpAny_holding (wpAny_call_entry slot_list_sort ⟨_, a0, rfl⟩ entry_list_sort (SrtO.list_sort_ord O a0 hz (fun n2 => hS n2 _ _ a0 k0) fun out hs hb => ⟨_, rfl, wpAny_pure ⟨_, rfl, ?_⟩⟩) (args_list_sort _)))
  have q := h out hs hb
  unfold sortedAll at q
  rw [e0] at q
  exact q
theorem sorted_tk {l : Addr} {vs : List Value} {k : Value → List Key} {Q : Value → Shared → Prop} (hl : s.heap.IsList l vs.toArray ∨ IsTup s.heap l vs.toArray) (hz : vs.length ≤ sizeLine) (hp : ∀ v ∈ vs, IsTk s.heap v (k v)) (hok : ∀ v ∈ vs, ∀ u ∈ vs, okp (k v) (k u) = true ∧ okh (k v) (k u) = true)
    (h : ∀ (h' : Heap) (d : Addr) (out : List Value), SrtO.Srtd (fun v u => kLt (k v) (k u)) out → out.Perm vs → (∀ b o, s.heap.get? b = some o → h'.get? b = some o) → s.heap.objs.size ≤ d → (∃ n, h'.get? d = some (seqObj "list" out.toArray n)) → Q (.ref d) { s with heap := h' }) : wpAny (model prog w) A (call (.builtin "sorted") [.ref l]) Q E s := by
  have hS : 2 ≤ vs.length → ∀ (h₁ : Heap) (a : Addr), h₁.get? a = some (seqObj "list" vs.toArray 0) → (∀ b o, s.heap.get? b = some o → b ≠ a ∧ h₁.get? b = some o) → SrtO.SortableO prog w A.in1.in1 { s with heap := h₁ } a vs fun v u => kLt (k v) (k u) := fun n2 h₁ a ha kk =>
    tk_sortable (s := { s with heap := h₁ }) n2 (fun v hm => (hp v hm).keeps fun b o e _ => (kk b o e).2) hok fun o e c => by
      have e' : some o = some (seqObj "list" vs.toArray 0) := e.symm.trans ha
      cases e'
      exact absurd (Value.type.inj c) (by decide)
  have fin : ∀ out : List Value, SrtO.Srtd (fun v u => kLt (k v) (k u)) out → SrtO.Stb (fun v u => kLt (k v) (k u)) out vs → Q (.ref (s.heap.objs.size + 1)) { s with heap := sortedAll s.heap vs out.toArray } := fun out hs hb =>
    h _ _ out hs hb.perm (fun b o e => sortedAll_old e) (Nat.le_succ _) (sortedAll_at s.heap vs out.toArray)
  rcases hl with hl | hl
  · exact SrtO.sorted_ord (kLt_swo k) hl hz hS fin
  · exact sortedT (kLt_swo k) hl hz hS fin
end
def rSortTk (K : PySem.W.Frag) : List V → Hp → VK → Prop := fun vs H Q => ∃ (a : Addr) (xs : List V) (kl : List (List Key)), vs = [V.ref a] ∧ (SqL K H a xs ∨ SqT K H a xs) ∧ xs.length = kl.length ∧ (∀ x k, (x, k) ∈ xs.zip kl → ∃ t, x = V.ref t ∧ SqT K H t (k.map kV)) ∧ okKs kl = true ∧
  ∀ (ys : List V) (p : Addr), ys.length = (ksort kl).length → (∀ y k, (y, k) ∈ ys.zip (ksort kl) → (y, k) ∈ xs.zip kl) → H p = none → Q (.ref p) (upd H p (.lst ys))
open Classical in
noncomputable def keyAt (h : Heap) (v : Value) : List Key := if q : ∃ ks, IsTk h v ks then q.choose else []
theorem keyAt_eq {h : Heap} {v : Value} {ks : List Key} (q : IsTk h v ks) : keyAt h v = ks := by
  have e : ∃ ks, IsTk h v ks := ⟨ks, q⟩
  unfold keyAt
  rw [dif_pos e]
  exact e.choose_spec.inj q
section
variable {X : Cx} {T : TR} {E : XK} {G : DG} {ρ : List Addr} {H : Hp} {σ : St} {aσ : AE} {st : Store}
theorem cr_sortTk : CallR X (.builtin "sorted") (rSortTk X.K) := by
  intro pins s σ H vs us Q I r h
  obtain ⟨a, xs, kl, rfl, hs, hlen, hx, hok, q⟩ := h
  obtain ⟨u, rfl, ru⟩ := vals1 r
  obtain rfl : u = Value.ref a := ru
  obtain ⟨its, rv, hl, hz⟩ : ∃ its : List Value, Vals xs its ∧ (s.heap.IsList a its.toArray ∨ IsTup s.heap a its.toArray) ∧ xs.length ≤ sizeLine := by
    rcases hs with hs | hs
    · obtain ⟨its, r, p, z⟩ := I.list hs
      exact ⟨its, r, .inl p.isList, z⟩
    · obtain ⟨its, r, p, z⟩ := I.tuple hs
      exact ⟨its, r, .inr p, z⟩
  obtain ⟨e1, e2⟩ := refs_back rv fun x m => by
    obtain ⟨i, hi, rfl⟩ := List.mem_iff_getElem.mp m
    obtain ⟨t, e, _⟩ := hx xs[i] kl[i] (List.mem_iff_getElem.mpr ⟨i, by simp; omega, by simp⟩)
    exact ⟨t, e⟩
  have hl2 : its.length = kl.length := by rw [← rv.length]; exact hlen
  -- the keys
  have key : ∀ i (hi : i < its.length), IsTk s.heap its[i] (kl[i]'(by omega)) := fun i hi => by
    obtain ⟨t, e, ht⟩ := hx (xs[i]'(by omega)) (kl[i]'(by omega)) (List.mem_iff_getElem.mpr ⟨i, by simp; omega, by simp⟩)
    obtain ⟨its2, r2, p2, _⟩ := I.tuple ht
    obtain ⟨a', ea⟩ := e2 its[i] (List.getElem_mem hi)
    have e3 : xs[i]'(by omega) = backV its[i] := by simp only [e1, List.getElem_map]
    rw [e, ea] at e3
    cases e3
    exact ⟨t, its2.toArray, ea, p2, by simpa using kvals_of r2⟩
  have ek : its.map (keyAt s.heap) = kl := by
    refine List.ext_getElem (by simpa using hl2) fun i h1 h2 => ?_
    rw [List.getElem_map]
    exact keyAt_eq (key i (by simpa using h1))
  have hmem : ∀ v ∈ its, IsTk s.heap v (keyAt s.heap v) ∧ keyAt s.heap v ∈ kl := fun v hv => by
    refine ⟨?_, by rw [← ek]; exact List.mem_map_of_mem hv⟩
    obtain ⟨i, hi, rfl⟩ := List.mem_iff_getElem.mp hv
    rw [keyAt_eq (key i hi)]
    exact key i hi
  refine sorted_tk (k := keyAt s.heap) hl (by rw [← rv.length]; exact hz) (fun v hv => (hmem v hv).1) (fun v hv u hu => ?_) fun h' d out h1 h2 kp hd hn => ?_
  · unfold okKs at hok
    simpa using List.all_eq_true.mp (List.all_eq_true.mp hok _ (hmem v hv).2) _ (hmem u hu).2
  · have h3 : ∀ u ∈ out, ∃ a, u = Value.ref a := fun u hu => e2 u (h2.mem_iff.mp hu)
    obtain ⟨n, hn⟩ := hn
    have eo : out.map (keyAt s.heap) = ksort kl := by
      refine ksort_uniq ?_ (List.pairwise_map.mpr h1)
      rw [← ek]
      exact h2.map _
    have hlo : out.length = its.length := h2.length_eq
    refine ⟨.ref d, upd H d (.lst (out.map backV)), I.laid (t' := s.toks) kp hd ⟨?_, out, n, vals_back h3, hn⟩, rfl, q _ d ?_ (fun y k hm => ?_) (I.hok.fresh hd)⟩
    · rw [List.length_map, hlo, ← rv.length]
      exact hz
    · rw [← eo]; simp
    · rw [← eo, List.zip_map'] at hm
      obtain ⟨v, hv, e⟩ := List.mem_map.mp hm
      cases e
      have hv2 := h2.mem_iff.mp hv
      rw [e1, ← ek, List.zip_map']
      exact List.mem_map_of_mem hv2
def tksOf : List PV → Option (List (List Key))
  | [] => some []
  | .tup l :: r => (kOfs l).bind fun k => (tksOf r).map (k :: ·)
  | _ :: _ => none
def tkv (k : List Key) : PV := .tup (k.map kpv)
def qSrtT (xs : List PV) : M PV := fun st => match xs with
  | [x] => (match (asI x st).bind tksOf with
    | some l => if okKs l = true then .ok (.lst ((ksort l).map tkv)) st else .fail
    | none => .fail)
  | _ => .fail
theorem kOfs_back : ∀ {l : List PV} {k : List Key}, kOfs l = some k → k.map kpv = l
  | [], k, h => by simp only [kOfs, Option.some.injEq] at h; subst h; rfl
  | p :: l, k, h => by
    simp only [kOfs] at h
    obtain ⟨d, e1, h⟩ := Option.bind_eq_some_iff.mp h
    obtain ⟨ds, e2, rfl⟩ := Option.map_eq_some_iff.mp h
    rw [List.map_cons, kOfs_back e2]
    unfold kOf at e1
    split at e1 <;> cases e1 <;> rfl
theorem tks_rl : ∀ {l : List PV} {kl : List (List Key)} {xs : List V}, tksOf l = some kl → RlAll G ρ H l xs → xs.length = kl.length ∧ ∀ x k, (x, k) ∈ xs.zip kl → ∃ t, x = V.ref t ∧ SqT G.K H t (k.map kV) ∧ Rl G ρ H (tkv k) x
  | [], kl, _, h, .nil => by
    simp only [tksOf, Option.some.injEq] at h
    subst h
    exact ⟨rfl, fun x k z => by simp at z⟩
  | p :: l, kl, v :: vs, h, .cons r t => by
    cases p with
    | tup l0 =>
      simp only [tksOf] at h
      obtain ⟨k0, e1, h⟩ := Option.bind_eq_some_iff.mp h
      obtain ⟨kr, e2, rfl⟩ := Option.map_eq_some_iff.mp h
      obtain ⟨h1, h2⟩ := tks_rl e2 t
      refine ⟨by simp [h1], fun x k z => ?_⟩
      rw [List.zip_cons_cons] at z
      rcases List.mem_cons.mp z with z | z
      · cases z
        have rr := r
        cases r with
        | tup tv ra =>
          have := kOfs_v e1 ra
          subst this
          exact ⟨_, rfl, tv.sq, by unfold tkv; rw [kOfs_back e1]; exact rr⟩
      · exact h2 x k z
    | _ => simp [tksOf] at h
theorem rl_zip : ∀ {ks : List (List Key)} {ys : List V}, ys.length = ks.length → (∀ y k, (y, k) ∈ ys.zip ks → Rl G ρ H (tkv k) y) → RlAll G ρ H (ks.map tkv) ys
  | [], [], _, _ => .nil
  | [], _ :: _, h, _ => by simp at h
  | _ :: _, [], h, _ => by simp at h
  | k :: ks, y :: ys, h, z => .cons (z y k (by simp)) (rl_zip (by simpa using h) fun y' k' m => z y' k' (by simp [m]))
theorem ad_srtT : AdqL G E (rSortTk G.K) qSrtT := fun ρ H st xs vs Q hS rs h => by
  unfold qSrtT at h
  split at h
  · obtain ⟨v, rfl, r⟩ := all1 rs
    split at h
    · rename_i kl e
      split at h
      · rename_i hok
        obtain ⟨l, e1, e2⟩ := Option.bind_eq_some_iff.mp e
        obtain ⟨a, xs, rfl, rd, ra⟩ := asI_rl hS r e1
        obtain ⟨h1, h2⟩ := tks_rl e2 ra
        refine ⟨a, xs, kl, rfl, rd, h1, fun x k m => ?_, hok, fun ys p hl hm hn => ?_⟩
        · obtain ⟨t, e, s, _⟩ := h2 x k m
          exact ⟨t, e, s⟩
        · refine post_lst h hS (rl_zip hl fun y k m => ?_) hn
          obtain ⟨t, _, _, rr⟩ := h2 y k (hm y k m)
          exact rr
      · exact h.elim
    · exact h.elim
  · exact h.elim
variable {e : Expr} {pos p : Pos} {es : List Expr} {fs : DA}
theorem ev_srtT (hg : Gl X "sorted") (hm : X.mg "sorted" = none) (ha : EA X T E (e :: es) fs) (hs : starEach (e :: es) X.env = (false, eval e X.env) :: starEach es X.env := by rfl) (hpl : (backTo pos (starEach es X.env)).any (·.1) = false := by rfl) : EV X T E (.Call (.Name "sorted" p) (e :: es) [] pos) (dAl qSrtT fs) :=
  ev_bi cr_sortTk ad_srtT hg hm (by decide +kernel) ha (by decide) (by decide) hs hpl
end
end DN
set_option maxHeartbeats 2000000
namespace DN
open PySem PySem.Spec PyProof.Rows L2
variable {Xp : EP}
def inE (p : PV) (k : Str → PV → Prop) : Prop := match p with
  | .err c w => k c w
  | _ => False
@[simp] theorem inE_err {c : Str} {w : PV} {k : Str → PV → Prop} : inE (.err c w) k = k c w := rfl
section
variable {Q : PV → Store → Prop} {N : AE → Store → Prop} {R : PV → Store → Prop} {B C : AE → Store → Prop} {σ : AE} {st : Store} {f : DE} {s g : DS} {c x : Str} {w v : PV} {n : Nat} {tbl : Str → Str → Option Bool} {l : List Cl1}
@[simp] theorem wps_raise : (wpsX Xp) (sRaise c f σ st) N R B C = (wpX Xp) (f σ st) fun v st => Xp c v st := by
  unfold sRaise
  cases f σ st <;> (unfold wpsX; (try unfold wpX); rfl)
@[simp] theorem wp_what : (wpX Xp) (dWhat f σ st) Q = (wpX Xp) (f σ st) fun p st => inE p fun _ w => Q w st := by
  simp only [dWhat, wp_bind]
  congr 1; funext p st; cases p <;> simp [inE]
theorem wp_isE {b : Bool} (h : tbl c x = some b) : (wpX Xp) (qIsE tbl [.err c w, .con x] st) Q = Q (.bl b) st := by
  simp only [qIsE, h, wp_ok]
@[simp] theorem wps_try {b : DS} : (wpsX Xp) (sTry tbl n b l σ st) N R B C = wpsX (fun c w st' => (wpsX Xp) (runH tbl n c w l st') N R B C) (b σ st) N R B C := by
  unfold sTry
  cases b σ st with
  | ok r st' => obtain ⟨fl, a⟩ := r; cases fl <;> (unfold wpsX; rfl)
  | exc c w st' => rw [wps_exc]
  | fail => unfold wpsX; rfl
@[simp] theorem wps_runN : (wpsX Xp) (runH tbl n c w [] st) N R B C = Xp c w st := by unfold runH; exact wps_exc
theorem wps_runY {o : Option Nat} {r : List Cl1} (h : tbl c x = some true) : (wpsX Xp) (runH tbl n c w ((x, o, g) :: r) st) N R B C = (wpsX Xp) (endH n st (g (nE n o c w) st)) N R B C := by
  simp only [runH, h]
theorem samE_rfl : samE st st := fun _ _ h => .inl h
theorem wps_endH {r : Res (Fl × AE)} (h : wpsX EF r (fun σ' st' => samE st st' ∧ σ'.length = n ∧ N (List.replicate n none) st') (fun v st' => noE v = true ∧ samE st st' ∧ R v st') (fun σ' st' => samE st st' ∧ σ'.length = n ∧ B (List.replicate n none) st') (fun σ' st' => samE st st' ∧ σ'.length = n ∧ C (List.replicate n none) st')) : (wpsX Xp) (endH n st r) N R B C := by
  cases r with
  | ok r st' =>
    obtain ⟨fl, σ'⟩ := r
    cases fl with
    | nx =>
      obtain ⟨h1, h2, h3⟩ := wps_nx.mp h
      simp only [endH, h1, h2, and_self, if_true]
      exact wps_nx.mpr h3
    | bk =>
      obtain ⟨h1, h2, h3⟩ := wps_bk.mp h
      simp only [endH, h1, h2, and_self, if_true]
      exact wps_bk.mpr h3
    | ct =>
      obtain ⟨h1, h2, h3⟩ := wps_ct.mp h
      simp only [endH, h1, h2, and_self, if_true]
      exact wps_ct.mpr h3
    | rt v =>
      obtain ⟨h1, h2, h3⟩ := wps_rt.mp h
      simp only [endH, h1, h2, and_self, if_true]
      exact wps_rt.mpr h3
  | exc c w st' => rw [wps_exc] at h; exact h.elim
  | fail => exact (nwsF h).elim
theorem wps_hit {o : Option Nat} {r : List Cl1} (h : tbl c x = some true) (hg : wpsX EF (g (nE n o c w) st) (fun _ _ => False) (fun v st' => noE v = true ∧ st' = st ∧ R v st) (fun _ _ => False) (fun _ _ => False)) : (wpsX Xp) (runH tbl n c w ((x, o, g) :: r) st) N R B C := by
  rw [wps_runY h]
  refine wps_endH (wps_mono hg (fun _ _ z => z.elim) (fun v st' z => ?_) (fun _ _ z => z.elim) (fun _ _ z => z.elim))
  obtain ⟨h1, rfl, h2⟩ := z
  exact ⟨h1, samE_rfl, h2⟩
@[simp] theorem wp_rev : (wpX Xp) (dRev f σ st) Q = (wpX Xp) (f σ st) fun p st => ∃ l, asL p st = some l ∧ Q (.lst l.reverse) st := by
  simp only [dRev, wp_bind]
  congr 1; funext p st
  cases q : asL p st <;> simp
theorem tksOf_tkv : ∀ l : List (List Key), (∀ k ∈ l, kOfs (k.map kpv) = some k) → tksOf (l.map tkv) = some l
  | [], _ => rfl
  | k :: l, h => by
    simp only [List.map_cons, tksOf, tkv, h k List.mem_cons_self, Option.bind_some, Option.map_eq_some_iff]
    exact ⟨l, tksOf_tkv l fun k hk => h k (List.mem_cons_of_mem _ hk), rfl⟩
theorem kOfs_kpv : ∀ k : List Key, kOfs (k.map kpv) = some k
  | [] => rfl
  | k :: l => by
    have : kOf (kpv k) = some k := by cases k <;> rfl
    simp only [List.map_cons, kOfs, this, kOfs_kpv l, Option.bind_some, Option.map_some]
theorem wp_srtT {l : List (List Key)} {p : PV} (hp : asI p st = some (l.map tkv)) (ok : okKs l = true) : (wpX Xp) (qSrtT [p] st) Q = Q (.lst ((ksort l).map tkv)) st := by
  simp only [qSrtT, hp, Option.bind_some, tksOf_tkv l fun k _ => kOfs_kpv k, ok, if_true, wp_ok]
end
end DN
namespace DN
open PySem PySem.Spec PyProof.Rows L2
def dRevR (f : DE) : DE := fun σ st => (f σ st).bind fun p st => match asL p st with
  | some l => .ok (.ref st.length) (st ++ [.lst l.reverse])
  | none => .fail
section
variable {X : Cx} {T : TR} {E : XK} {G : DG} {ρ : List Addr} {H : Hp} {σ : St} {aσ : AE} {st : Store} {a b e : Expr} {fb f : DE} {pos : Pos}
end
variable {Xp : EP} {Q : PV → Store → Prop} {f : DE} {σ : AE} {st : Store}
@[simp] theorem wp_revR : wpX Xp (dRevR f σ st) Q = wpX Xp (f σ st) fun p st => ∃ l, asL p st = some l ∧ Q (.ref st.length) (st ++ [.lst l.reverse]) := by
  simp only [dRevR, wp_bind]
  congr 1; funext p st
  cases asL p st with
  | none => simp
  | some l => simp
end DN
set_option maxHeartbeats 4000000
namespace DN
open PySem PySem.Spec PyProof.Rows L2
section
variable {prog : Program} {w : World} {A : Around} {E : Value → Shared → Prop} {s : Shared}
end
section
variable {X : Cx} {T : TR} {E : XK} {G : DG} {ρ : List Addr} {H : Hp} {σ : St} {aσ : AE} {st : Store} {e : Expr} {f : DE} {p p2 pos pos2 : Pos}
end
end DN
namespace PySem
open PyProof.Rows
section
variable {prog : Program} {w : World} {K : Type} [DecidableEq K] {knd : HeapKind prog w K} {A : Around} {E : Value → Shared → Prop} {s : Shared}
end
end PySem
namespace DN
open PySem PySem.Spec PyProof.Rows L2
section
variable {X : Cx}
section
variable {T : TR} {E : XK} {G : DG}
variable {e : Expr} {es : List Expr} {fs : DA} {pos p : Pos}
end
end
end DN
set_option maxHeartbeats 2000000
namespace DN
open PySem PySem.Spec PyProof.Rows L2
def qTupF (xs : List PV) : M PV := fun st => match xs with
  | [x] => (match asL x st with
    | some l => .ok (.ftp l) st
    | none => .fail)
  | _ => .fail
def isFt (p : PV) (_ : Store) : Bool := match p with
  | .ftp _ => true
  | _ => false
def mIndexF (x : PV) (xs : List PV) : M PV := match x with
  | .ftp l => mIndexT (.tup l) xs
  | _ => fun _ => .fail
section
variable {X : Cx} {T : TR} {E : XK} {G : DG} {ρ : List Addr} {H : Hp} {σ : St} {aσ : AE} {st : Store}
variable {e o : Expr} {es : List Expr} {fs : DA} {f fo : DE} {pos p apos cpos : Pos}
end
section
variable {Xp : EP} {Q : PV → Store → Prop} {st : Store}
@[simp] theorem cl_ftp {l : List PV} : cl (.ftp l) = cls l := by simp [cl]
@[simp] theorem wp_tupF {l : List PV} : wpX Xp (qTupF [.lst l] st) Q = Q (.ftp l) st := by
  simp only [qTupF, asL, wp_ok]
end
end DN
namespace DN
open PySem PySem.Spec PyProof.Rows L2
def putP (f : Str) (v : PV) : List (Str × PV) → List (Str × PV)
  | [] => [(f, v)]
  | (g, x) :: r => if g = f then (g, v) :: r else (g, x) :: putP f v r
section
variable {G : DG} {ρ : List Addr} {H : Hp}
end
def pFld (Cs : List Str) (f : Str) (p : PV) : M PV := fun st => match p with
  | .ref n => (match st[n]? with
    | some (.ins C fs) => if C ∈ Cs then (match fs.lookup f with
      | some v => .ok v st
      | none => .fail) else .fail
    | _ => .fail)
  | _ => .fail
def dFld (Cs : List Str) (f : Str) (fo : DE) : DE := fun σ st => (fo σ st).bind fun p st => pFld Cs f p st
def pFldS (Cs : List Str) (f : Str) (v p : PV) : M Unit := fun st => match p with
  | .ref n => (match st[n]? with
    | some (.ins C fs) => if C ∈ Cs ∧ fs.length < 1000 then .ok () (st.set n (.ins C (putP f v fs))) else .fail
    | _ => .fail)
  | _ => .fail
def sFldS (Cs : List Str) (f : Str) (fo fv : DE) : DS := fun σ st => (fv σ st).bind fun v st => (fo σ st).bind fun p st => (pFldS Cs f v p st).bind fun _ st => .ok (.nx, σ) st
def isIns (C m : Str) (p : PV) (st : Store) : Bool := match p with
  | .ref n => (match st[n]? with
    | some (.ins C' fs) => decide (C' = C) && (fs.lookup m).isNone
    | _ => false)
  | _ => false
def dMe (C m : Str) (d : List PV → M PV) (fo : DE) (fs : DA) : DE := fun σ st => (fo σ st).bind fun p st => if isIns C m p st then (fs σ st).bind fun ps st => d (p :: ps) st else .fail
def dMk (C : Str) (d : List PV → M PV) (ps : List PV) : M PV := fun st => (d (.ref st.length :: ps) (st ++ [.ins C []])).bind fun v st' => match v with
  | .non => .ok (.ref st.length) st'
  | _ => .fail
section
variable {X : Cx} {T : TR} {E : XK} {o e value : Expr} {es : List Expr} {fo fv : DE} {fs : DA} {f : Str} {Cs : List Str} {pos pos' apos p : Pos}
end
section
variable {X : Cx} {T : TR} {E : XK} {o e : Expr} {es : List Expr} {fo : DE} {fs : DA} {C m x : Str} {pos apos p : Pos} {ps : List Str} {k : Nat} {tb : TBL} {d : List PV → M PV} {f ca : Addr} {fd : FuncData} {sp : Sp} {ta : TE} {t : TA}
theorem RoomG.make {A : Around} (r : RoomG (k + 1) A) (C : Addr) (us : List Value) (kw : List (Str × Value)) : RoomG k (A.under (.builtin "type.__call__" ⟨.ref C :: us, kw⟩)) := ⟨r.room.make C us kw, by
  simp only [Around.under]
  rw [r.gd]
  rfl⟩
end
section
variable {Xp : EP} {Q : PV → Store → Prop} {N : AE → Store → Prop} {R : PV → Store → Prop} {B K : AE → Store → Prop} {σ : AE} {st : Store}
@[simp] theorem wp_fld {Cs : List Str} {f : Str} {fo : DE} : wpX Xp (dFld Cs f fo σ st) Q = wpX Xp (fo σ st) fun p st => wpX Xp (pFld Cs f p st) Q := by
  unfold dFld
  rw [wp_bind]
@[simp] theorem wps_fld {Cs : List Str} {f : Str} {fo fv : DE} : wpsX Xp (sFldS Cs f fo fv σ st) N R B K = wpX Xp (fv σ st) fun v st => wpX Xp (fo σ st) fun p st => wpX Xp (pFldS Cs f v p st) fun _ st => N σ st := by
  unfold sFldS
  cases h1 : fv σ st with
  | ok v st1 =>
    simp only [Res.bind, wp_ok]
    cases h2 : fo σ st1 with
    | ok p st2 =>
      simp only [wp_ok]
      cases h3 : pFldS Cs f v p st2 with
      | ok a st3 => simp only [wp_ok, wps_nx]
      | exc _ _ _ => simp only [wp_exc, wps_exc]
      | fail => simp [wpsX, wpX]
    | exc _ _ _ => simp only [wp_exc, wps_exc]
    | fail => simp [wpsX, wpX]
  | exc _ _ _ => simp only [Res.bind, wp_exc, wps_exc]
  | fail => simp [wpsX, wpX, Res.bind]
@[simp] theorem wp_dMe {C m : Str} {d : List PV → M PV} {fo : DE} {fs : DA} : wpX Xp (dMe C m d fo fs σ st) Q = wpX Xp (fo σ st) fun p st => isIns C m p st = true ∧ wpX Xp (fs σ st) fun ps st => wpX Xp (d (p :: ps) st) Q := by
  unfold dMe
  rw [wp_bind]
  congr 1
  funext p st
  split
  · rename_i h
    rw [wp_bind]
    simp [h]
  · rename_i h
    simp [h]
@[simp] theorem wp_dMk {C : Str} {d : List PV → M PV} {ps : List PV} : wpX Xp (dMk C d ps st) Q = wpX Xp (d (.ref st.length :: ps) (st ++ [.ins C []])) fun v st' => v = .non ∧ Q (.ref st.length) st' := by
  unfold dMk
  rw [wp_bind]
  congr 1
  funext v st'
  cases v <;> simp
end
end DN
set_option maxHeartbeats 4000000
namespace Lib
open PySem PySem.Spec PyProof.Rows L2 DN
noncomputable def _law_pool : List PV → M PV := dFnK 2 5
  (sSeq (sAsg (dC (.int 0)) (tName 2))
  (sSeq (sIf (bVal (d2 pLt (dVar 1) (dAl qLen (dAc (dVar 0) dA0)))) (sAsg (d2 pIx (dVar 0) (dVar 1)) (tName 2)) (sIf (bVal (d2 pNe (dVar 0) (dAl mLst dA0))) (sAsg (d2 pIx (dVar 0) (dC (.int 0))) (tName 2)) sNext))
  (sSeq (sAsg (dAl qMax (dAc (dAl qInt (dAc (dVar 2) dA0)) (dAc (dAl qInt (dAc (d2 pSub (d1 pNeg (dC (.int 1))) (dVar 2)) dA0)) dA0))) (tName 3))
  (sSeq (sAsg (d2 pMod (dAl qInt (dAc (d2 pMul (d2 pAdd (d2 pAdd (d2 pAdd (d2 pMod (dAl qInt (dAc (dVar 3) dA0)) (dC (.int 2147483629))) (d2 pMul (d2 pMul (dC (.int 7919)) (dVar 1)) (dVar 1))) (d2 pMul (dC (.int 31)) (dVar 1))) (dC (.int 17))) (dC (.int 48271))) dA0)) (dC (.int 2147483647))) (tName 4))
  (sRet (dAl mLstR (dAc (d2 pMul (dVar 3) (dAl qInt (dAc (dAnd (d2 pGe (dVar 3) (d2 pPow (dC (.int 10)) (dC (.int 18)))) (d2 pLt (dVar 1) (dAl qLen (dAc (dVar 0) dA0)))) dA0))) (dAc (dVar 4) dA0))))))))
noncomputable def _law_take : List PV → M PV := dFn 2 3
  (sSeq (sIf (bVal (d2 pGt (d2 pIx (dVar 0) (dC (.int 0))) (dC (.int 0)))) (sSeq (sAsg (d2 pMod (dAl qInt (dAc (d2 pIx (dVar 0) (dC (.int 0))) dA0)) (dVar 1)) (tName 2))
  (sSeq (sAsg (d2 pDiv (d2 pIx (dVar 0) (dC (.int 0))) (dVar 1)) (tSub (dVar 0) (dC (.int 0))))
  (sRet (dVar 2)))) sNext)
  (sSeq (sAsg (d2 pMod (dAl qInt (dAc (d2 pAdd (d2 pMul (d2 pIx (dVar 0) (dC (.int 1))) (dC (.int 39373))) (dC (.int 7))) dA0)) (dC (.int 2147483647))) (tSub (dVar 0) (dC (.int 1))))
  (sRet (d2 pMod (dAl qInt (dAc (d2 pDiv (d2 pMod (dAl qInt (dAc (d2 pMul (d2 pIx (dVar 0) (dC (.int 1))) (d2 pIx (dVar 0) (dC (.int 1)))) dA0)) (dC (.int 2147483629))) (dC (.int 32))) dA0)) (dVar 1)))))
noncomputable def _law_one : List PV → M PV := dFn 2 2
  (sRet (d2 pIx (dVar 1) (dAl _law_take (dAc (dVar 0) (dAc (dAl qLen (dAc (dVar 1) dA0)) dA0)))))
noncomputable def _law_rooms : List PV → M PV := dFn 2 3
  (sRet (dAl qTup (dAc (dCompL (iRg1 (dVar 1)) (tName 2) bYes (dAl _law_one (dAc (dVar 0) (dAc (dAl mLst (dAc (dC (.int 1)) (dAc (dC (.int 1)) (dAc (dC (.int 2)) (dAc (dC (.int 1)) (dAc (dC (.int 0)) (dAc (dC (.int 2)) (dAc (dC (.int 3)) (dAc (dC (.int 4)) dA0))))))))) dA0))) [2] mLst) dA0)))
noncomputable def _law_mixed : List PV → M PV := dFn 2 5
  (sSeq (sPar 3 4 (dAc (dAl qLstR (dAc (dVar 1) dA0)) (dAc (dAl mLstR dA0) dA0)))
  (sSeq (sFor (iRg1 (dAl qLen (dAc (dVar 1) dA0))) (tName 2) (sExpr (dM isL mAppend (dVar 4) (dAc (dM isL mPop1 (dVar 3) (dAc (dAl _law_take (dAc (dVar 0) (dAc (dAl qLen (dAc (dVar 3) dA0)) dA0))) dA0)) dA0))) [2])
  (sRet (dVar 4))))
noncomputable def _law_grown : List PV → M PV := dFn 2 9
  (sSeq (sAsg (dAl _law_mixed (dAc (dVar 0) (dAc (dCompL (iRg1 (dAl qLen (dAc (dVar 1) dA0))) (tName 6) bYes (dVar 6) [6] mLst) dA0))) (tName 2))
  (sSeq (sAsg (dCompL (iRg1 (dAl qLen (dAc (dVar 1) dA0))) (tName 6) bYes (dC .non) [6] mLstR) (tName 3))
  (sSeq (sFor (iRg1 (dAl qLen (dAc (dVar 2) dA0))) (tName 4) (sSeq (sAsg (dCompL (iSeq (dSl (dVar 2) oNone (oSome (dVar 4)))) (tName 8) (bVal (d2 pGt (d2 pIx (dVar 1) (dVar 8)) (dC (.int 0)))) (dVar 8) [8] mLst) (tName 5))
  (sIf (bAnd (bVal (d2 pNe (dVar 5) (dAl mLst dA0))) (bVal (d2 pGt (dAl _law_take (dAc (dVar 0) (dAc (dC (.int 4)) dA0))) (dC (.int 0))))) (sSeq (sAsg (dAl _law_one (dAc (dVar 0) (dAc (dVar 5) dA0))) (tName 7))
  (sAsg (dAl mTup (dAc (dVar 7) (dAc (dAl _law_take (dAc (dVar 0) (dAc (d2 pIx (dVar 1) (dVar 7)) dA0))) dA0))) (tSub (dVar 3) (d2 pIx (dVar 2) (dVar 4))))) sNext)) [4, 5, 7])
  (sRet (dAl qTup (dAc (dVar 3) dA0))))))
noncomputable def _law_climb : List PV → M PV := dFn 2 5
  (sSeq (sPar 3 4 (dAc (dAl mLstR dA0) (dAc (d2 pIx (dVar 0) (dVar 1)) dA0)))
  (sSeq (sFor (iRg1 (dAl qLen (dAc (dVar 0) dA0))) (tName 2) (sSeq (sIf (bVal (d2 pIs (dVar 4) (dC .non))) sBreak sNext)
  (sSeq (sExpr (dM isL mAppend (dVar 3) (dAc (dVar 4) dA0)))
  (sAsg (d2 pIx (dVar 0) (d2 pIx (dVar 4) (dC (.int 0)))) (tName 4)))) [2])
  (sRet (dVar 3))))
noncomputable def room_way : List PV → M PV := dFn 3 4
  (sSeq (sAsg (d2 pIx (dVar 0) (dVar 1)) (tName 3))
  (sSeq (sWhile (bVal (d2 pIsNot (dVar 3) (dC .non))) (sSeq (sIf (bVal (d2 pEq (d2 pIx (dVar 3) (dC (.int 0))) (dVar 2))) (sRet (d2 pIx (dVar 3) (dC (.int 1)))) sNext)
  (sAsg (d2 pIx (dVar 0) (d2 pIx (dVar 3) (dC (.int 0)))) (tName 3))) [])
  (sRet (dC .non))))
noncomputable def standing_in : List PV → M PV := dFn 3 4
  (sSeq (sAsg (dAl room_way (dAc (dVar 0) (dAc (dVar 1) (dAc (dVar 2) dA0)))) (tName 3))
  (sSeq (sIf (bVal (d2 pIsNot (dVar 3) (dC .non))) (sRet (dAl mTup (dAc (dC (.str ("in" : Str))) (dAc (dVar 3) dA0)))) sNext)
  (sSeq (sAsg (dAl room_way (dAc (dVar 0) (dAc (dVar 2) (dAc (dVar 1) dA0)))) (tName 3))
  (sRet (dIf (bVal (d2 pIs (dVar 3) (dC .non))) (dC (.tup [(.str ("apart" : Str)), (.int 0)])) (dAl mTup (dAc (dC (.str ("around" : Str))) (dAc (dVar 3) dA0))))))))
noncomputable def first_broken : List PV → M PV := dFn 2 6
  (sSeq (sFor (iEn (d2 pIx (dVar 0) (dC (.int 1)))) (tTupP 2 (tCons (tName 2) (tCons (tTupP 3 (tCons (tName 3) (tCons (tName 4) (tCons (tName 5) tNil)))) tNil))) (sIf (bVal (d2 pNotIn (dAl standing_in (dAc (dVar 1) (dAc (dVar 3) (dAc (dVar 4) dA0)))) (dVar 5))) (sRet (dVar 2)) sNext) [2, 3, 4, 5])
  (sRet (dC .non)))
noncomputable def is_pair : List PV → M PV := dFn 1 1
  (sRet (dAnd (dAl qIsI (dAc (dVar 0) (dAc (dC (.ty "tuple")) dA0))) (d2 pEq (dAl qLen (dAc (dVar 0) dA0)) (dC (.int 2)))))
noncomputable def is_whole : List PV → M PV := dFn 1 1
  (sRet (dAnd (dAl qIsI (dAc (dVar 0) (dAc (dC (.ty "int")) dA0))) (dNot (dAl qIsI (dAc (dVar 0) (dAc (dC (.ty "bool")) dA0))))))
noncomputable def is_rooms : List PV → M PV := dFn 1 2
  (sSeq (sIf (bOr (bNot (bTruth (dAl qIsI (dAc (dVar 0) (dAc (dC (.ty "tuple")) dA0))))) (bVal (d2 pGt (dAl qLen (dAc (dVar 0) dA0)) (dC (.int 24))))) (sRet (dC (.bl false))) sNext)
  (sRet (d2 pEq (dCompL (iSeq (dVar 0)) (tName 1) (bOr (bNot (bTruth (dAl is_whole (dAc (dVar 1) dA0)))) (bNot (bVal (dChain pLe pLe (dC (.int 0)) (dVar 1) (dC (.int 4)))))) (dVar 1) [1] mLst) (dAl mLst dA0))))
noncomputable def all_standings : List PV → M PV := dFn 3 5
  (sSeq (sAsg (dCompL (iRg1 (d2 pIx (dVar 0) (dVar 2))) (tName 4) bYes (dAl mTup (dAc (dC (.str ("in" : Str))) (dAc (dVar 4) dA0))) [4] mLst) (tName 3))
  (sRet (d2 pAdd (d2 pAdd (dAl mTup (dAc (dC (.tup [(.str ("apart" : Str)), (.int 0)])) dA0)) (dAl qTup (dAc (dVar 3) dA0))) (dAl qTup (dAc (dCompL (iRg1 (d2 pIx (dVar 0) (dVar 1))) (tName 4) bYes (dAl mTup (dAc (dC (.str ("around" : Str))) (dAc (dVar 4) dA0))) [4] mLst) dA0)))))
noncomputable def is_standing : List PV → M PV := dFn 4 4
  (sSeq (sIf (bOr (bNot (bTruth (dAl qIsI (dAc (dVar 3) (dAc (dC (.ty "tuple")) dA0))))) (bOr (bVal (d2 pNe (dAl qLen (dAc (dVar 3) dA0)) (dC (.int 2)))) (bOr (bNot (bTruth (dAl qIsI (dAc (d2 pIx (dVar 3) (dC (.int 0))) (dAc (dC (.ty "str")) dA0))))) (bNot (bTruth (dAl is_whole (dAc (d2 pIx (dVar 3) (dC (.int 1))) dA0))))))) (sRet (dC (.bl false))) sNext)
  (sRet (d2 pIn (dVar 3) (dAl all_standings (dAc (dVar 0) (dAc (dVar 1) (dAc (dVar 2) dA0)))))))
noncomputable def is_lets : List PV → M PV := dFn 4 8
  (sSeq (sIf (bNot (bTruth (dAl qIsI (dAc (dVar 3) (dAc (dC (.ty "tuple")) dA0))))) (sRet (dC (.bl false))) sNext)
  (sSeq (sAsg (dAl all_standings (dAc (dVar 0) (dAc (dVar 1) (dAc (dVar 2) dA0)))) (tName 4))
  (sSeq (sAsg (d1 pNeg (dC (.int 1))) (tName 5))
  (sSeq (sFor (iSeq (dVar 3)) (tName 6) (sSeq (sIf (bNot (bTruth (dAl is_standing (dAc (dVar 0) (dAc (dVar 1) (dAc (dVar 2) (dAc (dVar 6) dA0))))))) (sRet (dC (.bl false))) sNext)
  (sSeq (sAsg (dM isT mIndexT (dVar 4) (dAc (dVar 6) dA0)) (tName 7))
  (sSeq (sIf (bVal (d2 pLe (dVar 7) (dVar 5))) (sRet (dC (.bl false))) sNext)
  (sAsg (dVar 7) (tName 5))))) [6, 7])
  (sRet (dC (.bl true)))))))
noncomputable def is_thing : List PV → M PV := dFn 2 2
  (sRet (dAnd (dAl is_whole (dAc (dVar 1) dA0)) (dChain pLe pLt (dC (.int 0)) (dVar 1) (dAl qLen (dAc (dVar 0) dA0)))))
noncomputable def says_right : List PV → M PV := dFn 2 5
  (sSeq (sIf (bOr (bNot (bTruth (dAl qIsI (dAc (dVar 1) (dAc (dC (.ty "tuple")) dA0))))) (bVal (d2 pNe (dAl qLen (dAc (dVar 1) dA0)) (dC (.int 3))))) (sRet (dC (.bl false))) sNext)
  (sSeq (sAsg (dVar 1) (tTupP 3 (tCons (tName 2) (tCons (tName 3) (tCons (tName 4) tNil)))))
  (sSeq (sIf (bOr (bNot (bTruth (dAl is_thing (dAc (dVar 0) (dAc (dVar 2) dA0))))) (bOr (bNot (bTruth (dAl is_thing (dAc (dVar 0) (dAc (dVar 3) dA0))))) (bVal (d2 pEq (dVar 2) (dVar 3))))) (sRet (dC (.bl false))) sNext)
  (sRet (dAl is_lets (dAc (dVar 0) (dAc (dVar 2) (dAc (dVar 3) (dAc (dVar 4) dA0)))))))))
noncomputable def first_wrong : List PV → M PV := dFn 2 4
  (sSeq (sFor (iEn (dVar 1)) (tTupP 2 (tCons (tName 2) (tCons (tName 3) tNil))) (sIf (bNot (bTruth (dAl says_right (dAc (dVar 0) (dAc (dVar 3) dA0))))) (sRet (dVar 2)) sNext) [2, 3])
  (sRet (dC .non)))
noncomputable def is_book : List PV → M PV := dFn 1 1
  (sSeq (sIf (bOr (bNot (bTruth (dAl is_pair (dAc (dVar 0) dA0)))) (bOr (bNot (bTruth (dAl is_rooms (dAc (d2 pIx (dVar 0) (dC (.int 0))) dA0)))) (bNot (bTruth (dAl qIsI (dAc (d2 pIx (dVar 0) (dC (.int 1))) (dAc (dC (.ty "tuple")) dA0))))))) (sRet (dC (.bl false))) sNext)
  (sRet (dAnd (d2 pLe (dAl qLen (dAc (d2 pIx (dVar 0) (dC (.int 1))) dA0)) (dC (.int 400))) (d2 pIs (dAl first_wrong (dAc (d2 pIx (dVar 0) (dC (.int 0))) (dAc (d2 pIx (dVar 0) (dC (.int 1))) dA0))) (dC .non)))))
noncomputable def is_place : List PV → M PV := dFn 3 5
  (sSeq (sIf (bVal (d2 pIs (dVar 2) (dC .non))) (sRet (dC (.bl true))) sNext)
  (sSeq (sIf (bOr (bNot (bTruth (dAl qIsI (dAc (dVar 2) (dAc (dC (.ty "tuple")) dA0))))) (bOr (bVal (d2 pNe (dAl qLen (dAc (dVar 2) dA0)) (dC (.int 2)))) (bOr (bNot (bTruth (dAl is_whole (dAc (d2 pIx (dVar 2) (dC (.int 0))) dA0)))) (bNot (bTruth (dAl is_whole (dAc (d2 pIx (dVar 2) (dC (.int 1))) dA0))))))) (sRet (dC (.bl false))) sNext)
  (sSeq (sAsg (dVar 2) (tTupP 2 (tCons (tName 3) (tCons (tName 4) tNil))))
  (sRet (dAnd (dChain pLe pLt (dC (.int 0)) (dVar 3) (dAl qLen (dAc (dVar 0) dA0))) (dAnd (d2 pNe (dVar 3) (dVar 1)) (dChain pLe pLt (dC (.int 0)) (dVar 4) (d2 pIx (dVar 0) (dVar 3)))))))))
noncomputable def first_bad : List PV → M PV := dFn 2 4
  (sSeq (sFor (iEn (dVar 1)) (tTupP 2 (tCons (tName 2) (tCons (tName 3) tNil))) (sIf (bNot (bTruth (dAl is_place (dAc (dVar 0) (dAc (dVar 2) (dAc (dVar 3) dA0)))))) (sRet (dVar 2)) sNext) [2, 3])
  (sRet (dC .non)))
noncomputable def lies_in_itself : List PV → M PV := dFn 2 4
  (sSeq (sAsg (dVar 1) (tName 2))
  (sSeq (sFor (iRg1 (dAl qLen (dAc (dVar 0) dA0))) (tName 3) (sSeq (sIf (bVal (d2 pIs (d2 pIx (dVar 0) (dVar 2)) (dC .non))) (sRet (dC (.bl false))) sNext)
  (sSeq (sAsg (d2 pIx (d2 pIx (dVar 0) (dVar 2)) (dC (.int 0))) (tName 2))
  (sIf (bVal (d2 pEq (dVar 2) (dVar 1))) (sRet (dC (.bl true))) sNext))) [3])
  (sRet (dC (.bl false)))))
noncomputable def first_ring : List PV → M PV := dFn 1 2
  (sSeq (sFor (iRg1 (dAl qLen (dAc (dVar 0) dA0))) (tName 1) (sIf (bTruth (dAl lies_in_itself (dAc (dVar 0) (dAc (dVar 1) dA0)))) (sRet (dVar 1)) sNext) [1])
  (sRet (dC .non)))
noncomputable def is_forest : List PV → M PV := dFn 2 2
  (sSeq (sIf (bOr (bNot (bTruth (dAl is_rooms (dAc (dVar 0) dA0)))) (bOr (bNot (bTruth (dAl qIsI (dAc (dVar 1) (dAc (dC (.ty "tuple")) dA0))))) (bVal (d2 pNe (dAl qLen (dAc (dVar 1) dA0)) (dAl qLen (dAc (dVar 0) dA0)))))) (sRet (dC (.bl false))) sNext)
  (sRet (dAnd (d2 pIs (dAl first_bad (dAc (dVar 0) (dAc (dVar 1) dA0))) (dC .non)) (d2 pIs (dAl first_ring (dAc (dVar 1) dA0)) (dC .non)))))
noncomputable def keeps : List PV → M PV := dFn 2 2
  (sSeq (sIf (bOr (bNot (bTruth (dAl is_book (dAc (dVar 0) dA0)))) (bNot (bTruth (dAl is_forest (dAc (d2 pIx (dVar 0) (dC (.int 0))) (dAc (dVar 1) dA0)))))) (sRet (dC (.bl false))) sNext)
  (sRet (d2 pIs (dAl first_broken (dAc (dVar 0) (dAc (dVar 1) dA0))) (dC .non))))
noncomputable def _law_number : List PV → M PV := dFn 2 2
  (sRet (dAnd (dAl qIsI (dAc (dVar 0) (dAc (dC (.ty "int")) dA0))) (dAnd (dNot (dAl qIsI (dAc (dVar 0) (dAc (dC (.ty "bool")) dA0)))) (dChain pLe pLt (dC (.int 0)) (dVar 0) (dVar 1)))))
noncomputable def made_rooms : List PV → M PV := dFn 1 3
  (sSeq (sIf (bNot (bTruth (dAl qIsI (dAc (dVar 0) (dAc (dC (.ty "tuple")) dA0))))) (sRaise ("BadRooms" : Str) (d1 pNeg (dC (.int 1)))) sNext)
  (sSeq (sIf (bVal (d2 pGt (dAl qLen (dAc (dVar 0) dA0)) (dC (.int 24)))) (sRaise ("TooMany" : Str) (dAl qLen (dAc (dVar 0) dA0))) sNext)
  (sSeq (sFor (iEn (dVar 0)) (tTupP 2 (tCons (tName 1) (tCons (tName 2) tNil))) (sIf (bOr (bNot (bTruth (dAl is_whole (dAc (dVar 2) dA0)))) (bNot (bVal (dChain pLe pLe (dC (.int 0)) (dVar 2) (dC (.int 4)))))) (sRaise ("BadRooms" : Str) (dVar 1)) sNext) [1, 2])
  (sRet (dVar 0)))))
noncomputable def made_book : List PV → M PV := dFn 1 4
  (sSeq (sIf (bNot (bTruth (dAl is_pair (dAc (dVar 0) dA0)))) (sRaise ("BadBook" : Str) (d1 pNeg (dC (.int 1)))) sNext)
  (sSeq (sAsg (dAl made_rooms (dAc (d2 pIx (dVar 0) (dC (.int 0))) dA0)) (tName 1))
  (sSeq (sAsg (d2 pIx (dVar 0) (dC (.int 1))) (tName 2))
  (sSeq (sIf (bNot (bTruth (dAl qIsI (dAc (dVar 2) (dAc (dC (.ty "tuple")) dA0))))) (sRaise ("BadBook" : Str) (d1 pNeg (dC (.int 1)))) sNext)
  (sSeq (sIf (bVal (d2 pGt (dAl qLen (dAc (dVar 2) dA0)) (dC (.int 400)))) (sRaise ("TooMany" : Str) (dAl qLen (dAc (dVar 2) dA0))) sNext)
  (sSeq (sAsg (dAl first_wrong (dAc (dVar 1) (dAc (dVar 2) dA0))) (tName 3))
  (sSeq (sIf (bVal (d2 pIsNot (dVar 3) (dC .non))) (sRaise ("BadSaying" : Str) (dVar 3)) sNext)
  (sRet (dAl mTup (dAc (dVar 1) (dAc (dVar 2) dA0)))))))))))
noncomputable def want_thing : List PV → M PV := dFn 2 2
  (sIf (bNot (bTruth (dAl is_thing (dAc (dVar 0) (dAc (dVar 1) dA0))))) (sRaise ("BadThing" : Str) (dVar 1)) sNext)
noncomputable def want_pair : List PV → M PV := dFn 3 3
  (sSeq (sExpr (dAl want_thing (dAc (dVar 0) (dAc (dVar 1) dA0))))
  (sSeq (sExpr (dAl want_thing (dAc (dVar 0) (dAc (dVar 2) dA0))))
  (sIf (bVal (d2 pEq (dVar 1) (dVar 2))) (sRaise ("BadThing" : Str) (dVar 2)) sNext)))
noncomputable def common_lets : List PV → M PV := dFn 2 3
  (sRet (dAl qTup (dAc (dCompL (iSeq (dVar 0)) (tName 2) (bVal (d2 pIn (dVar 2) (dVar 1))) (dVar 2) [2] mLst) dA0)))
noncomputable def turned : List PV → M PV := dFn 1 3
  (sSeq (sAsg (dVar 0) (tTupP 2 (tCons (tName 1) (tCons (tName 2) tNil))))
  (sRet (dAl mTup (dAc (d2 (pGd ("TURNED" : Str) [(("apart" : Str), ("apart" : Str)), (("in" : Str), ("around" : Str)), (("around" : Str), ("in" : Str))]) (dC (.con ("TURNED" : Str))) (dVar 1)) (dAc (dVar 2) dA0)))))
noncomputable def turned_lets : List PV → M PV := dFn 1 5
  (sSeq (sAsg (dCompL (iSeq (dVar 0)) (tName 4) (bVal (d2 pEq (d2 pIx (dVar 4) (dC (.int 0))) (dC (.str ("apart" : Str))))) (dVar 4) [4] mLst) (tName 1))
  (sSeq (sAsg (dCompL (iSeq (dVar 0)) (tName 4) (bVal (d2 pEq (d2 pIx (dVar 4) (dC (.int 0))) (dC (.str ("around" : Str))))) (dAl turned (dAc (dVar 4) dA0)) [4] mLst) (tName 2))
  (sSeq (sAsg (dCompL (iSeq (dVar 0)) (tName 4) (bVal (d2 pEq (d2 pIx (dVar 4) (dC (.int 0))) (dC (.str ("in" : Str))))) (dAl turned (dAc (dVar 4) dA0)) [4] mLst) (tName 3))
  (sRet (dAl qTup (dAc (d2 pAdd (d2 pAdd (dVar 1) (dVar 2)) (dVar 3)) dA0))))))
noncomputable def lets_of : List PV → M PV := dFn 3 9
  (sSeq (sAsg (dVar 0) (tTupP 2 (tCons (tName 4) (tCons (tName 5) tNil))))
  (sSeq (sAsg (dAl all_standings (dAc (dVar 4) (dAc (dVar 1) (dAc (dVar 2) dA0)))) (tName 3))
  (sSeq (sFor (iSeq (dVar 5)) (tTupP 3 (tCons (tName 6) (tCons (tName 7) (tCons (tName 8) tNil)))) (sIf (bAnd (bVal (d2 pEq (dVar 6) (dVar 1))) (bVal (d2 pEq (dVar 7) (dVar 2)))) (sAsg (dAl common_lets (dAc (dVar 3) (dAc (dVar 8) dA0))) (tName 3)) (sIf (bAnd (bVal (d2 pEq (dVar 6) (dVar 2))) (bVal (d2 pEq (dVar 7) (dVar 1)))) (sAsg (dAl common_lets (dAc (dVar 3) (dAc (dAl turned_lets (dAc (dVar 8) dA0)) dA0))) (tName 3)) sNext)) [6, 7, 8])
  (sRet (dVar 3)))))
noncomputable def _law_other : List PV → M PV := dFn 3 3
  (sRet (d2 pMod (dAl qInt (dAc (d2 pAdd (d2 pAdd (dVar 1) (dC (.int 1))) (dAl _law_take (dAc (dVar 0) (dAc (d2 pSub (dVar 2) (dC (.int 1))) dA0)))) dA0)) (dVar 2)))
noncomputable def is_lot : List PV → M PV := dFn 2 4
  (sSeq (sIf (bNot (bTruth (dAl qIsI (dAc (dVar 1) (dAc (dC (.ty "tuple")) dA0))))) (sRet (dC (.bl false))) sNext)
  (sSeq (sAsg (d1 pNeg (dC (.int 1))) (tName 2))
  (sSeq (sFor (iSeq (dVar 1)) (tName 3) (sSeq (sIf (bOr (bNot (bTruth (dAl is_thing (dAc (dVar 0) (dAc (dVar 3) dA0))))) (bVal (d2 pLe (dVar 3) (dVar 2)))) (sRet (dC (.bl false))) sNext)
  (sAsg (dVar 3) (tName 2))) [3])
  (sRet (dC (.bl true))))))
noncomputable def want_lot : List PV → M PV := dFn 2 2
  (sIf (bNot (bTruth (dAl is_lot (dAc (dVar 0) (dAc (dVar 1) dA0))))) (sRaise ("BadLot" : Str) (d1 pNeg (dC (.int 1)))) sNext)
noncomputable def reached : List PV → M PV := dFn 3 8
  (sSeq (sAsg (dDc (.dK []) (iSeq (dVar 1)) (tName 6) bYes (dcP (dVar 6) (dC (.bl true))) [6]) (tName 3))
  (sSeq (sAsg (dDisp mDkR [((dVar 2), (dC (.bl true)))]) (tName 4))
  (sSeq (sAsg (dAl mLstR (dAc (dVar 2) dA0)) (tName 5))
  (sSeq (sWhile (bTruth (dVar 5)) (sSeq (sAsg (dM0 isL mPop0 (dVar 5)) (tName 6))
  (sFor (iSeq (d2 pIx (dVar 0) (dVar 6))) (tName 7) (sIf (bAnd (bVal (d2 pIn (dVar 7) (dVar 3))) (bVal (d2 pNotIn (dVar 7) (dVar 4)))) (sSeq (sAsg (dC (.bl true)) (tSub (dVar 4) (dVar 7)))
  (sExpr (dM isL mAppend (dVar 5) (dAc (dVar 7) dA0)))) sNext) [7])) [6, 7])
  (sRet (dAl qTup (dAc (dCompL (iSeq (dVar 1)) (tName 6) (bVal (d2 pIn (dVar 6) (dVar 4))) (dVar 6) [6] mLst) dA0)))))))
noncomputable def parts_in : List PV → M PV := dFn 2 6
  (sSeq (sAsg (dAl mLstR dA0) (tName 2))
  (sSeq (sAsg (dVar 1) (tName 3))
  (sSeq (sWhile (bTruth (dVar 3)) (sSeq (sAsg (dAl reached (dAc (d2 pIx (dVar 0) (dC (.int 2))) (dAc (dVar 3) (dAc (d2 pIx (dVar 3) (dC (.int 0))) dA0)))) (tName 4))
  (sSeq (sExpr (dM isL mAppend (dVar 2) (dAc (dVar 4) dA0)))
  (sAsg (dAl qTup (dAc (dCompL (iSeq (dVar 3)) (tName 5) (bVal (d2 pNotIn (dVar 5) (dVar 4))) (dVar 5) [5] mLst) dA0)) (tName 3)))) [4])
  (sRet (dAl qTup (dAc (dVar 2) dA0))))))
noncomputable def all_lets : List PV → M PV := dFn 1 8
  (sSeq (sAsg (dVar 0) (tTupP 2 (tCons (tName 3) (tCons (tName 4) tNil))))
  (sSeq (sAsg (dAl qLen (dAc (dVar 3) dA0)) (tName 1))
  (sSeq (sAsg (dDc (.dT []) (iRg1 (dVar 1)) (tName 5) bYes (fun n => dcS (iRg1 (dVar 1)) (tName 6) (bVal (d2 pNe (dVar 5) (dVar 6))) [6] (dcP (dAl mTup (dAc (dVar 5) (dAc (dVar 6) dA0))) (dAl all_standings (dAc (dVar 3) (dAc (dVar 5) (dAc (dVar 6) dA0)))) n)) [5, 6]) (tName 2))
  (sSeq (sFor (iSeq (dVar 4)) (tTupP 3 (tCons (tName 5) (tCons (tName 6) (tCons (tName 7) tNil)))) (sSeq (sAsg (dAl common_lets (dAc (d2 pIx (dVar 2) (dAl mTup (dAc (dVar 5) (dAc (dVar 6) dA0)))) (dAc (dVar 7) dA0))) (tSub (dVar 2) (dAl mTup (dAc (dVar 5) (dAc (dVar 6) dA0)))))
  (sAsg (dAl common_lets (dAc (d2 pIx (dVar 2) (dAl mTup (dAc (dVar 6) (dAc (dVar 5) dA0)))) (dAc (dAl turned_lets (dAc (dVar 7) dA0)) dA0))) (tSub (dVar 2) (dAl mTup (dAc (dVar 6) (dAc (dVar 5) dA0)))))) [5, 6, 7])
  (sRet (dVar 2))))))
noncomputable def near_of : List PV → M PV := dFn 2 5
  (sSeq (sAsg (dAl qLen (dAc (dVar 0) dA0)) (tName 2))
  (sRet (dAl qTup (dAc (dCompL (iRg1 (dVar 2)) (tName 3) bYes (dAl qTup (dAc (dCompL (iRg1 (dVar 2)) (tName 4) (bAnd (bVal (d2 pNe (dVar 4) (dVar 3))) (bVal (d2 pNotIn (dC (.tup [(.str ("apart" : Str)), (.int 0)])) (d2 pIx (dVar 1) (dAl mTup (dAc (dVar 3) (dAc (dVar 4) dA0))))))) (dVar 4) [4] mLst) dA0)) [3] mLst) dA0))))
noncomputable def world_of : List PV → M PV := dFn 1 2
  (sSeq (sAsg (dAl all_lets (dAc (dVar 0) dA0)) (tName 1))
  (sRet (dAl mTup (dAc (d2 pIx (dVar 0) (dC (.int 0))) (dAc (dVar 1) (dAc (dAl near_of (dAc (d2 pIx (dVar 0) (dC (.int 0))) (dAc (dVar 1) dA0))) dA0))))))
noncomputable def parts : List PV → M PV := dFn 2 2
  (sSeq (sAsg (dAl made_book (dAc (dVar 0) dA0)) (tName 0))
  (sSeq (sExpr (dAl want_lot (dAc (d2 pIx (dVar 0) (dC (.int 0))) (dAc (dVar 1) dA0))))
  (sRet (dAl parts_in (dAc (dAl world_of (dAc (dVar 0) dA0)) (dAc (dVar 1) dA0))))))
noncomputable def without : List PV → M PV := dFn 2 3
  (sRet (dAl qTup (dAc (dCompL (iSeq (dVar 0)) (tName 2) (bVal (d2 pNe (dVar 2) (dVar 1))) (dVar 2) [2] mLst) dA0)))
noncomputable def shut_out : List PV → M PV := dFn 4 5
  (sRet (dAl qTup (dAc (dCompL (iSeq (dVar 3)) (tName 4) (bVal (d2 pNotIn (dAl mTup (dAc (dC (.str ("around" : Str))) (dAc (dVar 2) dA0))) (d2 pIx (d2 pIx (dVar 0) (dC (.int 1))) (dAl mTup (dAc (dVar 1) (dAc (dVar 4) dA0)))))) (dVar 4) [4] mLst) dA0)))
noncomputable def over_in : List PV → M PV := dFn 3 4
  (sRet (dAl qTup (dAc (dCompL (iRg1 (d2 pIx (d2 pIx (dVar 0) (dC (.int 0))) (dVar 1))) (tName 3) (bVal (d2 pEq (dAl shut_out (dAc (dVar 0) (dAc (dVar 1) (dAc (dVar 3) (dAc (dVar 2) dA0))))) (dAl mTup dA0))) (dVar 3) [3] mLst) dA0)))
noncomputable def arranged (g : List PV → M PV) : Nat → List PV → M PV
  | 0 => fun _ _ => .fail
  | n + 1 => dFn 4 9
      (sSeq (sAsg (dAsk g 3 (dAc (dVar 1) dA0)) (tName 4))
      (sSeq (sIf (bVal (d2 pIs (dVar 4) (dC .non))) (sRet (dAl mTup (dAc (dAl mTup dA0) (dAc (dVar 1) dA0)))) sNext)
      (sSeq (sAsg (dAl mTup (dAc (dAl mTup (dAc (dVar 4) (dAc (dVar 2) dA0))) dA0)) (tName 5))
      (sSeq (sFor (iSeq (dAl parts_in (dAc (dVar 0) (dAc (dAl without (dAc (dVar 1) (dAc (dVar 4) dA0))) dA0)))) (tName 6) (sSeq (sAsg (dAl (arranged g n) (dAc (dVar 0) (dAc (dVar 6) (dAc (dAl mTup (dAc (dVar 4) (dAc (d2 pIx (dAl over_in (dAc (dVar 0) (dAc (dVar 4) (dAc (dVar 6) dA0)))) (dC (.int 0))) dA0))) (dAc (dVar 3) dA0))))) (tTupP 2 (tCons (tName 7) (tCons (tName 8) tNil))))
      (sSeq (sIf (bVal (d2 pIsNot (dVar 8) (dC .non))) (sRet (dAl mTup (dAc (dAl mTup dA0) (dAc (dVar 8) dA0)))) sNext)
      (sAsg (d2 pAdd (dVar 5) (dVar 7)) (tName 5)))) [6, 7, 8])
      (sRet (dAl mTup (dAc (dVar 5) (dAc (dC .non) dA0))))))))
noncomputable def walked (g : List PV → M PV) : List PV → M PV := dFn 2 9
  (sSeq (sAsg (dAl qLen (dAc (d2 pIx (dVar 0) (dC (.int 0))) dA0)) (tName 2))
  (sSeq (sAsg dNewK (tName 3))
  (sSeq (sFor (iSeq (dAl parts_in (dAc (dVar 0) (dAc (d1 qTupRg (dVar 2)) dA0)))) (tName 4) (sSeq (sAsg (dAl (arranged g 40) (dAc (dVar 0) (dAc (dVar 4) (dAc (dC .non) (dAc (dVar 1) dA0))))) (tTupP 2 (tCons (tName 5) (tCons (tName 6) tNil))))
  (sSeq (sIf (bVal (d2 pIsNot (dVar 6) (dC .non))) (sRet (dAl mTup (dAc (dC .non) (dAc (dVar 6) dA0)))) sNext)
  (sFor (iSeq (dVar 5)) (tTupP 2 (tCons (tName 7) (tCons (tName 8) tNil))) (sAsg (dVar 8) (tSub (dVar 3) (dVar 7))) [7, 8]))) [4, 5, 6, 7, 8])
  (sRet (dAl mTup (dAc (dAl qTup (dAc (dCompL (iRg1 (dVar 2)) (tName 7) bYes (d2 pIx (dVar 3) (dVar 7)) [7] mLst) dA0)) (dAc (dC .non) dA0)))))))
noncomputable def stuck_part : List PV → M PV := dFn 3 4
  (sSeq (sFor (iSeq (dAl parts_in (dAc (dVar 0) (dAc (dAl without (dAc (dVar 1) (dAc (dVar 2) dA0))) dA0)))) (tName 3) (sIf (bVal (d2 pEq (dAl over_in (dAc (dVar 0) (dAc (dVar 2) (dAc (dVar 3) dA0)))) (dAl mTup dA0))) (sRet (dVar 3)) sNext) [3])
  (sRet (dC .non)))
noncomputable def least_free : List PV → M PV := dFn 2 3
  (sSeq (sFor (iSeq (dVar 1)) (tName 2) (sIf (bVal (d2 pIs (dAl stuck_part (dAc (dVar 0) (dAc (dVar 1) (dAc (dVar 2) dA0)))) (dC .non))) (sRet (dVar 2)) sNext) [2])
  (sRet (dC .non)))
noncomputable def form_in : List PV → M PV := dFn 1 1
  (sRet (d2 pIx (dLam2 (fun g => (walked g)) (dLamF 1 1 2 (dAl least_free (dAc (dVar 1) (dAc (dVar 0) dA0)))) [0] (dVar 0)) (dC (.int 0))))
noncomputable def form_of : List PV → M PV := dFn 1 1
  (sRet (dAl form_in (dAc (dAl world_of (dAc (dVar 0) dA0)) dA0)))
noncomputable def form : List PV → M PV := dFn 1 1
  (sSeq (sAsg (dAl made_book (dAc (dVar 0) dA0)) (tName 0))
  (sRet (dAl form_of (dAc (dVar 0) dA0))))
noncomputable def barred_in : List PV → M PV := dFn 1 1
  (sRet (d2 pIx (dLam2 (fun g => (walked g)) (dLamF 1 1 2 (dAl least_free (dAc (dVar 1) (dAc (dVar 0) dA0)))) [0] (dVar 0)) (dC (.int 1))))
noncomputable def barred : List PV → M PV := dFn 1 1
  (sSeq (sAsg (dAl made_book (dAc (dVar 0) dA0)) (tName 0))
  (sRet (dAl barred_in (dAc (dAl world_of (dAc (dVar 0) dA0)) dA0))))
noncomputable def keepable : List PV → M PV := dFn 1 1
  (sRet (d2 pIs (dAl barred (dAc (dVar 0) dA0)) (dC .non)))
noncomputable def made_forest : List PV → M PV := dFn 2 5
  (sSeq (sAsg (dAl made_rooms (dAc (dVar 0) dA0)) (tName 0))
  (sSeq (sIf (bOr (bNot (bTruth (dAl qIsI (dAc (dVar 1) (dAc (dC (.ty "tuple")) dA0))))) (bVal (d2 pNe (dAl qLen (dAc (dVar 1) dA0)) (dAl qLen (dAc (dVar 0) dA0))))) (sRaise ("BadForest" : Str) (d1 pNeg (dC (.int 1)))) sNext)
  (sSeq (sAsg (dAl first_bad (dAc (dVar 0) (dAc (dVar 1) dA0))) (tName 2))
  (sSeq (sIf (bVal (d2 pIsNot (dVar 2) (dC .non))) (sRaise ("BadForest" : Str) (dVar 2)) sNext)
  (sSeq (sAsg (dAl first_ring (dAc (dVar 1) dA0)) (tName 3))
  (sSeq (sIf (bVal (d2 pIsNot (dVar 3) (dC .non))) (sRaise ("Ring" : Str) (dVar 3)) sNext)
  (sRet (dAl qTup (dAc (dCompL (iSeq (dVar 1)) (tName 4) bYes (dIf (bVal (d2 pIs (dVar 4) (dC .non))) (dC .non) (dAl mTup (dAc (d2 pIx (dVar 4) (dC (.int 0))) (dAc (d2 pIx (dVar 4) (dC (.int 1))) dA0)))) [4] mLst) dA0)))))))))
noncomputable def standings : List PV → M PV := dFn 3 3
  (sSeq (sAsg (dAl made_rooms (dAc (dVar 0) dA0)) (tName 0))
  (sSeq (sExpr (dAl want_pair (dAc (dVar 0) (dAc (dVar 1) (dAc (dVar 2) dA0)))))
  (sRet (dAl all_standings (dAc (dVar 0) (dAc (dVar 1) (dAc (dVar 2) dA0)))))))
noncomputable def around : List PV → M PV := dFn 2 4
  (sSeq (sAsg (dAl mLstR dA0) (tName 2))
  (sSeq (sAsg (d2 pIx (dVar 0) (dVar 1)) (tName 3))
  (sSeq (sWhile (bVal (d2 pIsNot (dVar 3) (dC .non))) (sSeq (sExpr (dM isL mAppend (dVar 2) (dAc (d2 pIx (dVar 3) (dC (.int 0))) dA0)))
  (sAsg (d2 pIx (dVar 0) (d2 pIx (dVar 3) (dC (.int 0)))) (tName 3))) [])
  (sRet (dAl qTup (dAc (dVar 2) dA0))))))
noncomputable def within : List PV → M PV := dFn 2 3
  (sRet (dAl qTup (dAc (dCompL (iRg1 (dAl qLen (dAc (dVar 0) dA0))) (tName 2) (bVal (d2 pIn (dVar 1) (dAl around (dAc (dVar 0) (dAc (dVar 2) dA0))))) (dVar 2) [2] mLst) dA0)))
noncomputable def together : List PV → M PV := dFn 3 8
  (sSeq (sAsg (dAl mLstR (dAc (dVar 1) dA0)) (tName 3))
  (sSeq (sAsg (dAl mLstR (dAc (dVar 1) dA0)) (tName 4))
  (sSeq (sWhile (bTruth (dVar 4)) (sSeq (sAsg (dM0 isL mPop0 (dVar 4)) (tName 5))
  (sSeq (sAsg (dCompL (iSeq (dVar 2)) (tName 7) (bAnd (bVal (d2 pNotIn (dVar 7) (dVar 3))) (bVal (d2 pNotIn (dAl mTup (dAc (dC (.str ("apart" : Str))) (dAc (dC (.int 0)) dA0))) (d2 pIx (dVar 0) (dAl mTup (dAc (dVar 5) (dAc (dVar 7) dA0))))))) (dVar 7) [7] mLst) (tName 6))
  (sSeq (sExpr (dM isL mExtend (dVar 3) (dAc (dVar 6) dA0)))
  (sExpr (dM isL mExtend (dVar 4) (dAc (dVar 6) dA0)))))) [5, 6])
  (sRet (dAl qTup (dAc (dAl qSrtI (dAc (dVar 3) dA0)) dA0))))))
noncomputable def near_row : List PV → M PV := dFn 3 4
  (sSeq (sAsg (dAl without (dAc (dVar 0) (dAc (dVar 1) dA0))) (tName 3))
  (sRet (dIf (bTruth (dVar 2)) (dAl qTup (dAc (dAl qSrtI (dAc (d2 pAdd (dVar 3) (dAl mTup (dAc (dVar 1) dA0))) dA0)) dA0)) (dVar 3))))
noncomputable def near_changed : List PV → M PV := dFn 4 4
  (sSeq (sAsg (d2 pAdd (d2 pAdd (dSl (dVar 0) oNone (oSome (dVar 1))) (dAl mTup (dAc (dAl near_row (dAc (d2 pIx (dVar 0) (dVar 1)) (dAc (dVar 2) (dAc (dVar 3) dA0)))) dA0))) (dSl (dVar 0) (oSome (d2 pAdd (dVar 1) (dC (.int 1)))) oNone)) (tName 0))
  (sRet (d2 pAdd (d2 pAdd (dSl (dVar 0) oNone (oSome (dVar 2))) (dAl mTup (dAc (dAl near_row (dAc (d2 pIx (dVar 0) (dVar 2)) (dAc (dVar 1) (dAc (dVar 3) dA0)))) dA0))) (dSl (dVar 0) (oSome (d2 pAdd (dVar 2) (dC (.int 1)))) oNone))))
noncomputable def free_in : List PV → M PV := dFn 2 3
  (sRet (dAl qTup (dAc (dCompL (iSeq (dVar 1)) (tName 2) (bVal (d2 pIs (dAl stuck_part (dAc (dVar 0) (dAc (dVar 1) (dAc (dVar 2) dA0)))) (dC .non))) (dVar 2) [2] mLst) dA0)))
noncomputable def made_clause : List PV → M PV := dFn 2 4
  (sSeq (sIf (bNot (bTruth (dAl qIsI (dAc (dVar 1) (dAc (dC (.ty "tuple")) dA0))))) (sRaise ("BadClause" : Str) (d1 pNeg (dC (.int 1)))) sNext)
  (sSeq (sIf (bVal (d2 pGt (dAl qLen (dAc (dVar 1) dA0)) (dC (.int 40)))) (sRaise ("TooMany" : Str) (dAl qLen (dAc (dVar 1) dA0))) sNext)
  (sSeq (sFor (iEn (dVar 1)) (tTupP 2 (tCons (tName 2) (tCons (tName 3) tNil))) (sIf (bNot (bTruth (dAl says_right (dAc (dVar 0) (dAc (dVar 3) dA0))))) (sRaise ("BadSaying" : Str) (dVar 2)) sNext) [2, 3])
  (sRet (dVar 1)))))
noncomputable def others : List PV → M PV := dFn 4 5
  (sRet (dAl qTup (dAc (dCompL (iSeq (dAl all_standings (dAc (dVar 0) (dAc (dVar 1) (dAc (dVar 2) dA0))))) (tName 4) (bVal (d2 pNotIn (dVar 4) (dVar 3))) (dVar 4) [4] mLst) dA0)))
noncomputable def contrary : List PV → M PV := dFn 2 5
  (sSeq (sAsg (dAl made_rooms (dAc (dVar 0) dA0)) (tName 0))
  (sSeq (sIf (bNot (bTruth (dAl says_right (dAc (dVar 0) (dAc (dVar 1) dA0))))) (sRaise ("BadSaying" : Str) (dC (.int 0))) sNext)
  (sSeq (sAsg (dVar 1) (tTupP 3 (tCons (tName 2) (tCons (tName 3) (tCons (tName 4) tNil)))))
  (sRet (dAl mTup (dAc (dVar 2) (dAc (dVar 3) (dAc (dAl others (dAc (dVar 0) (dAc (dVar 2) (dAc (dVar 3) (dAc (dVar 4) dA0))))) dA0))))))))
noncomputable def with_contraries : List PV → M PV := dFn 2 5
  (sSeq (sAsg (dVar 0) (tTupP 2 (tCons (tName 2) (tCons (tName 3) tNil))))
  (sRet (dAl mTup (dAc (dVar 2) (dAc (d2 pAdd (dVar 3) (dAl qTup (dAc (dCompL (iSeq (dVar 1)) (tName 4) bYes (dAl contrary (dAc (dVar 2) (dAc (dVar 4) dA0))) [4] mLst) dA0))) dA0)))))
noncomputable def form_against : List PV → M PV := dFn 2 2
  (sRet (dAl form_in (dAc (dAl world_of (dAc (dAl with_contraries (dAc (dVar 0) (dAc (dVar 1) dA0))) dA0)) dA0)))
noncomputable def follows_from : List PV → M PV := dFn 2 2
  (sRet (d2 pIs (dAl form_against (dAc (dVar 0) (dAc (dVar 1) dA0))) (dC .non)))
noncomputable def follows : List PV → M PV := dFn 2 2
  (sSeq (sAsg (dAl made_book (dAc (dVar 0) dA0)) (tName 0))
  (sSeq (sAsg (dAl made_clause (dAc (d2 pIx (dVar 0) (dC (.int 0))) (dAc (dVar 1) dA0))) (tName 1))
  (sRet (dAl follows_from (dAc (dVar 0) (dAc (dVar 1) dA0))))))
noncomputable def world_changed : List PV → M PV := dFn 4 9
  (sSeq (sAsg (dVar 0) (tTupP 3 (tCons (tName 5) (tCons (tName 6) (tCons (tName 7) tNil)))))
  (sSeq (sCpD 6 8 4)
  (sSeq (sAsg (dVar 3) (tSub (dVar 4) (dAl mTup (dAc (dVar 1) (dAc (dVar 2) dA0)))))
  (sSeq (sAsg (dAl turned_lets (dAc (dVar 3) dA0)) (tSub (dVar 4) (dAl mTup (dAc (dVar 2) (dAc (dVar 1) dA0)))))
  (sRet (dAl mTup (dAc (dVar 5) (dAc (dVar 4) (dAc (dAl near_changed (dAc (dVar 7) (dAc (dVar 1) (dAc (dVar 2) (dAc (d2 pNotIn (dC (.tup [(.str ("apart" : Str)), (.int 0)])) (dVar 3)) dA0))))) dA0)))))))))
noncomputable def world_with : List PV → M PV := dFn 4 4
  (sRet (dAl world_changed (dAc (dVar 0) (dAc (dVar 1) (dAc (dVar 2) (dAc (dAl common_lets (dAc (d2 pIx (d2 pIx (dVar 0) (dC (.int 1))) (dAl mTup (dAc (dVar 1) (dAc (dVar 2) dA0)))) (dAc (dVar 3) dA0))) dA0))))))
noncomputable def has_form_with : List PV → M PV := dFn 4 4
  (sRet (d2 pIsNot (dAl form_in (dAc (dAl world_with (dAc (dVar 0) (dAc (dVar 1) (dAc (dVar 2) (dAc (dAl mTup (dAc (dVar 3) dA0)) dA0))))) dA0)) (dC .non)))
noncomputable def possible_in : List PV → M PV := dFn 3 4
  (sRet (dAl qTup (dAc (dCompL (iSeq (d2 pIx (d2 pIx (dVar 0) (dC (.int 1))) (dAl mTup (dAc (dVar 1) (dAc (dVar 2) dA0))))) (tName 3) (bTruth (dAl has_form_with (dAc (dVar 0) (dAc (dVar 1) (dAc (dVar 2) (dAc (dVar 3) dA0)))))) (dVar 3) [3] mLst) dA0)))
noncomputable def tight : List PV → M PV := dFn 1 5
  (sSeq (sAsg (dAl made_book (dAc (dVar 0) dA0)) (tName 0))
  (sSeq (sAsg (dAl qLen (dAc (d2 pIx (dVar 0) (dC (.int 0))) dA0)) (tName 1))
  (sSeq (sIf (bVal (d2 pGt (dVar 1) (dC (.int 10)))) (sRaise ("TooMany" : Str) (dVar 1)) sNext)
  (sSeq (sAsg (dAl world_of (dAc (dVar 0) dA0)) (tName 2))
  (sRet (dAl qTup (dAc (dCompL2 (iRg1 (dVar 1)) (tName 3) bYes (iRg2 (d2 pAdd (dVar 3) (dC (.int 1))) (dVar 1)) (tName 4) bYes (dAl possible_in (dAc (dVar 2) (dAc (dVar 3) (dAc (dVar 4) dA0)))) [3, 4] [4] mLst) dA0)))))))
noncomputable def possible : List PV → M PV := dFn 3 3
  (sSeq (sAsg (dAl made_book (dAc (dVar 0) dA0)) (tName 0))
  (sSeq (sExpr (dAl want_pair (dAc (d2 pIx (dVar 0) (dC (.int 0))) (dAc (dVar 1) (dAc (dVar 2) dA0)))))
  (sRet (dAl possible_in (dAc (dAl world_of (dAc (dVar 0) dA0)) (dAc (dVar 1) (dAc (dVar 2) dA0)))))))
noncomputable def with_beneath : List PV → M PV := dFn 2 2
  (sRet (dAl qTup (dAc (dAl qSrtI (dAc (d2 pAdd (dAl within (dAc (dVar 0) (dAc (dVar 1) dA0))) (dAl mTup (dAc (dVar 1) dA0))) dA0)) dA0)))
noncomputable def hangs_whole : List PV → M PV := dFn 2 5
  (sSeq (sAsg (dCompL (iRg1 (dAl qLen (dAc (dVar 1) dA0))) (tName 3) bYes (dAl with_beneath (dAc (dVar 1) (dAc (dVar 3) dA0))) [3] mLst) (tName 2))
  (sRet (dAl qAll (dAc (dCompL (iSeq (dVar 2)) (tName 4) bYes (d2 pEq (dAl parts_in (dAc (dVar 0) (dAc (dVar 4) dA0))) (dAl mTup (dAc (dVar 4) dA0))) [4] mLst) dA0))))
noncomputable def _law_hung : List PV → M PV := dFn 3 3
  (sRet (d2 pAdd (d2 pAdd (dSl (dVar 0) oNone (oSome (dVar 1))) (dAl mTup (dAc (dVar 2) dA0))) (dSl (dVar 0) (oSome (d2 pAdd (dVar 1) (dC (.int 1)))) oNone)))
noncomputable def is_deed : List PV → M PV := dFn 1 1
  (sSeq (sIf (bOr (bNot (bTruth (dAl qIsI (dAc (dVar 0) (dAc (dC (.ty "tuple")) dA0))))) (bOr (bVal (d2 pNe (dAl qLen (dAc (dVar 0) dA0)) (dC (.int 3)))) (bNot (bTruth (dAl qIsI (dAc (d2 pIx (dVar 0) (dC (.int 0))) (dAc (dC (.ty "str")) dA0))))))) (sRet (dC (.bl false))) sNext)
  (sRet (dAnd (d2 pIn (d2 pIx (dVar 0) (dC (.int 0))) (dAl mTup (dAc (dC (.str ("turn" : Str))) (dAc (dC (.str ("shift" : Str))) dA0)))) (dAnd (dAl is_whole (dAc (d2 pIx (dVar 0) (dC (.int 1))) dA0)) (dAl is_whole (dAc (d2 pIx (dVar 0) (dC (.int 2))) dA0))))))
noncomputable def shift_rooms : List PV → M PV := dFn 3 6
  (sSeq (sAsg (d2 pIx (dVar 1) (dVar 2)) (tTupP 2 (tCons (tName 3) (tCons (tName 4) tNil))))
  (sRet (dAl qTup (dAc (dCompL (iSeq (dAl over_in (dAc (dVar 0) (dAc (dVar 3) (dAc (dAl with_beneath (dAc (dVar 1) (dAc (dVar 2) dA0))) dA0))))) (tName 5) (bVal (d2 pNe (dVar 5) (dVar 4))) (dVar 5) [5] mLst) dA0))))
noncomputable def is_free_there : List PV → M PV := dFn 3 3
  (sRet (d2 pIn (dVar 2) (dAl free_in (dAc (dVar 0) (dAc (dAl with_beneath (dAc (dVar 1) (dAc (d2 pIx (d2 pIx (dVar 1) (dVar 2)) (dC (.int 0))) dA0))) dA0)))))
noncomputable def part_with : List PV → M PV := dFn 3 4
  (sRet (d2 pIx (dCompL (iSeq (dAl parts_in (dAc (dVar 0) (dAc (dVar 1) dA0)))) (tName 3) (bVal (d2 pIn (dVar 2) (dVar 3))) (dVar 3) [3] mLst) (dC (.int 0))))
noncomputable def part_of_holder : List PV → M PV := dFn 3 4
  (sSeq (sAsg (d2 pIx (d2 pIx (dVar 1) (dVar 2)) (dC (.int 0))) (tName 3))
  (sRet (dAl part_with (dAc (dVar 0) (dAc (dAl without (dAc (dAl with_beneath (dAc (dVar 1) (dAc (dVar 3) dA0))) (dAc (dVar 2) dA0))) (dAc (dVar 3) dA0))))))
noncomputable def turn_rooms : List PV → M PV := dFn 3 3
  (sRet (dAl over_in (dAc (dVar 0) (dAc (dVar 2) (dAc (dAl part_of_holder (dAc (dVar 0) (dAc (dVar 1) (dAc (dVar 2) dA0)))) dA0)))))
noncomputable def want_granted : List PV → M PV := dFn 3 6
  (sSeq (sIf (bNot (bTruth (dAl is_deed (dAc (dVar 2) dA0)))) (sRaise ("BadDeed" : Str) (dVar 2)) sNext)
  (sSeq (sAsg (dVar 2) (tTupP 3 (tCons (tName 3) (tCons (tName 4) (tCons (tName 5) tNil)))))
  (sSeq (sIf (bNot (bTruth (dAl is_thing (dAc (d2 pIx (dVar 0) (dC (.int 0))) (dAc (dVar 4) dA0))))) (sRaise ("BadThing" : Str) (dVar 4)) sNext)
  (sSeq (sIf (bVal (d2 pIs (d2 pIx (dVar 1) (dVar 4)) (dC .non))) (sRaise ("OnFloor" : Str) (dVar 4)) sNext)
  (sSeq (sIf (bAnd (bVal (d2 pEq (dVar 3) (dC (.str ("shift" : Str))))) (bVal (d2 pNotIn (dVar 5) (dAl shift_rooms (dAc (dVar 0) (dAc (dVar 1) (dAc (dVar 4) dA0))))))) (sRaise ("BadRoom" : Str) (dVar 5)) sNext)
  (sSeq (sIf (bAnd (bVal (d2 pEq (dVar 3) (dC (.str ("turn" : Str))))) (bNot (bTruth (dAl is_free_there (dAc (dVar 0) (dAc (dVar 1) (dAc (dVar 4) dA0))))))) (sRaise ("NotFree" : Str) (dVar 4)) sNext)
  (sIf (bAnd (bVal (d2 pEq (dVar 3) (dC (.str ("turn" : Str))))) (bVal (d2 pNotIn (dVar 5) (dAl turn_rooms (dAc (dVar 0) (dAc (dVar 1) (dAc (dVar 4) dA0))))))) (sRaise ("BadRoom" : Str) (dVar 5)) sNext)))))))
noncomputable def turn_hangs : List PV → M PV := dFn 4 10
  (sSeq (sAsg (d2 pIx (dVar 1) (dVar 2)) (tTupP 2 (tCons (tName 6) (tCons (tName 7) tNil))))
  (sSeq (sAsg (dAl part_of_holder (dAc (dVar 0) (dAc (dVar 1) (dAc (dVar 2) dA0)))) (tName 4))
  (sSeq (sAsg (dCompL (iEn (dVar 1)) (tTupP 2 (tCons (tName 8) (tCons (tName 9) tNil))) (bAnd (bVal (d2 pIsNot (dVar 9) (dC .non))) (bAnd (bVal (d2 pEq (d2 pIx (dVar 9) (dC (.int 0))) (dVar 2))) (bVal (d2 pIn (dVar 8) (dVar 4))))) (dVar 8) [8, 9] mLst) (tName 5))
  (sRet (d2 pAdd (dAl mTup (dAc (dAl mTup (dAc (dVar 2) (dAc (d2 pIx (dVar 1) (dVar 6)) dA0))) (dAc (dAl mTup (dAc (dVar 6) (dAc (dAl mTup (dAc (dVar 2) (dAc (dVar 3) dA0))) dA0))) dA0))) (dAl qTup (dAc (dCompL (iSeq (dVar 5)) (tName 8) bYes (dAl mTup (dAc (dVar 8) (dAc (dAl mTup (dAc (dVar 6) (dAc (dVar 7) dA0))) dA0))) [8] mLst) dA0)))))))
noncomputable def deed_hangs : List PV → M PV := dFn 3 6
  (sSeq (sAsg (dVar 2) (tTupP 3 (tCons (tName 3) (tCons (tName 4) (tCons (tName 5) tNil)))))
  (sSeq (sIf (bVal (d2 pEq (dVar 3) (dC (.str ("turn" : Str))))) (sRet (dAl turn_hangs (dAc (dVar 0) (dAc (dVar 1) (dAc (dVar 4) (dAc (dVar 5) dA0)))))) sNext)
  (sRet (dAl mTup (dAc (dAl mTup (dAc (dVar 4) (dAc (dAl mTup (dAc (d2 pIx (d2 pIx (dVar 1) (dVar 4)) (dC (.int 0))) (dAc (dVar 5) dA0))) dA0))) dA0)))))
noncomputable def stands_let : List PV → M PV := dFn 2 6
  (sSeq (sAsg (dAl qLen (dAc (dVar 1) dA0)) (tName 2))
  (sSeq (sAsg (d2 pIx (dVar 0) (dC (.int 1))) (tName 3))
  (sRet (dAl qAll (dAc (dCompL2 (iRg1 (dVar 2)) (tName 4) bYes (iRg2 (d2 pAdd (dVar 4) (dC (.int 1))) (dVar 2)) (tName 5) bYes (d2 pIn (dAl standing_in (dAc (dVar 1) (dAc (dVar 4) (dAc (dVar 5) dA0)))) (d2 pIx (dVar 3) (dAl mTup (dAc (dVar 4) (dAc (dVar 5) dA0))))) [4, 5] [5] mLst) dA0)))))
noncomputable def is_least : List PV → M PV := dFn 2 2
  (sRet (dAnd (dAl stands_let (dAc (dVar 0) (dAc (dVar 1) dA0))) (dAl hangs_whole (dAc (dVar 0) (dAc (dVar 1) dA0)))))
noncomputable def hangs : List PV → M PV := dFn 3 5
  (sSeq (sAsg (dAl made_book (dAc (dVar 0) dA0)) (tName 0))
  (sSeq (sAsg (d2 pIx (dVar 0) (dC (.int 0))) (tName 3))
  (sSeq (sAsg (dAl made_forest (dAc (dVar 3) (dAc (dVar 1) dA0))) (tName 1))
  (sSeq (sAsg (dAl world_of (dAc (dVar 0) dA0)) (tName 4))
  (sSeq (sIf (bNot (bTruth (dAl is_least (dAc (dVar 4) (dAc (dVar 1) dA0))))) (sRaise ("NotLeast" : Str) (dC (.int 0))) sNext)
  (sSeq (sExpr (dAl want_granted (dAc (dVar 4) (dAc (dVar 1) (dAc (dVar 2) dA0)))))
  (sRet (dAl deed_hangs (dAc (dVar 4) (dAc (dVar 1) (dAc (dVar 2) dA0)))))))))))
noncomputable def all_put : List PV → M PV := dFn 2 4
  (sSeq (sFor (iSeq (dVar 1)) (tTupP 2 (tCons (tName 2) (tCons (tName 3) tNil))) (sAsg (dAl _law_hung (dAc (dVar 0) (dAc (dVar 2) (dAc (dVar 3) dA0)))) (tName 0)) [2, 3])
  (sRet (dVar 0)))
noncomputable def after : List PV → M PV := dFn 3 4
  (sSeq (sAsg (dAl hangs (dAc (dVar 0) (dAc (dVar 1) (dAc (dVar 2) dA0)))) (tName 3))
  (sRet (dAl all_put (dAc (dAl made_forest (dAc (d2 pIx (dVar 0) (dC (.int 0))) (dAc (dVar 1) dA0))) (dAc (dVar 3) dA0)))))
noncomputable def deeds : List PV → M PV := dFn 2 8
  (sSeq (sAsg (dAl made_book (dAc (dVar 0) dA0)) (tName 0))
  (sSeq (sAsg (d2 pIx (dVar 0) (dC (.int 0))) (tName 2))
  (sSeq (sAsg (dAl made_forest (dAc (dVar 2) (dAc (dVar 1) dA0))) (tName 1))
  (sSeq (sAsg (dAl world_of (dAc (dVar 0) dA0)) (tName 3))
  (sSeq (sIf (bNot (bTruth (dAl is_least (dAc (dVar 3) (dAc (dVar 1) dA0))))) (sRaise ("NotLeast" : Str) (dC (.int 0))) sNext)
  (sSeq (sAsg (dCompL (iRg1 (dAl qLen (dAc (dVar 2) dA0))) (tName 6) (bVal (d2 pIsNot (d2 pIx (dVar 1) (dVar 6)) (dC .non))) (dVar 6) [6] mLst) (tName 4))
  (sSeq (sAsg (dAl mLstR dA0) (tName 5))
  (sSeq (sFor (iSeq (dVar 4)) (tName 6) (sIf (bTruth (dAl is_free_there (dAc (dVar 3) (dAc (dVar 1) (dAc (dVar 6) dA0))))) (sExpr (dM isL mExtend (dVar 5) (dAc (dCompL (iSeq (dAl turn_rooms (dAc (dVar 3) (dAc (dVar 1) (dAc (dVar 6) dA0))))) (tName 7) bYes (dAl mTup (dAc (dC (.str ("turn" : Str))) (dAc (dVar 6) (dAc (dVar 7) dA0)))) [7] mLst) dA0))) sNext) [6])
  (sSeq (sFor (iSeq (dVar 4)) (tName 6) (sExpr (dM isL mExtend (dVar 5) (dAc (dCompL (iSeq (dAl shift_rooms (dAc (dVar 3) (dAc (dVar 1) (dAc (dVar 6) dA0))))) (tName 7) bYes (dAl mTup (dAc (dC (.str ("shift" : Str))) (dAc (dVar 6) (dAc (dVar 7) dA0)))) [7] mLst) dA0))) [6])
  (sRet (dAl qTup (dAc (dVar 5) dA0))))))))))))
noncomputable def least_deep : List PV → M PV := dFn 2 2
  (sRet (dMinK (dLamF 1 1 2 (dAl qLen (dAc (dAl around (dAc (dVar 1) (dAc (dVar 0) dA0))) dA0))) [0] (dVar 1)))
noncomputable def room_for : List PV → M PV := dFn 4 6
  (sSeq (sAsg (dAl over_in (dAc (dVar 0) (dAc (dVar 2) (dAc (dVar 3) dA0)))) (tName 4))
  (sSeq (sAsg (dAl room_way (dAc (dVar 1) (dAc (d2 pIx (dVar 3) (dC (.int 0))) (dAc (dVar 2) dA0)))) (tName 5))
  (sRet (dIf (bVal (d2 pIn (dVar 5) (dVar 4))) (dVar 5) (d2 pIx (dVar 4) (dC (.int 0)))))))
noncomputable def mended_in : List PV → M PV := dFn 2 9
  (sSeq (sAsg (dAl qLen (dAc (dVar 1) dA0)) (tName 2))
  (sSeq (sAsg (dCompL (iSeq (dAl parts_in (dAc (dVar 0) (dAc (d1 qTupRg (dVar 2)) dA0)))) (tName 6) bYes (dAl mTup (dAc (dVar 6) (dAc (dC .non) dA0))) [6] mLstR) (tName 3))
  (sSeq (sAsg dNewK (tName 4))
  (sSeq (sWhile (bTruth (dVar 3)) (sSeq (sAsg (dM0 isL mPop0 (dVar 3)) (tTupP 2 (tCons (tName 7) (tCons (tName 8) tNil))))
  (sSeq (sAsg (dAl least_deep (dAc (dVar 1) (dAc (dAl free_in (dAc (dVar 0) (dAc (dVar 7) dA0))) dA0))) (tName 5))
  (sSeq (sAsg (dVar 8) (tSub (dVar 4) (dVar 5)))
  (sFor (iSeq (dAl parts_in (dAc (dVar 0) (dAc (dAl without (dAc (dVar 7) (dAc (dVar 5) dA0))) dA0)))) (tName 6) (sExpr (dM isL mAppend (dVar 3) (dAc (dAl mTup (dAc (dVar 6) (dAc (dAl mTup (dAc (dVar 5) (dAc (dAl room_for (dAc (dVar 0) (dAc (dVar 1) (dAc (dVar 5) (dAc (dVar 6) dA0))))) dA0))) dA0))) dA0))) [6])))) [7, 8, 5, 6])
  (sRet (dAl qTup (dAc (dCompL (iRg1 (dVar 2)) (tName 5) bYes (d2 pIx (dVar 4) (dVar 5)) [5] mLst) dA0)))))))
noncomputable def mended : List PV → M PV := dFn 2 4
  (sSeq (sAsg (dAl made_book (dAc (dVar 0) dA0)) (tName 0))
  (sSeq (sAsg (dAl made_forest (dAc (d2 pIx (dVar 0) (dC (.int 0))) (dAc (dVar 1) dA0))) (tName 1))
  (sSeq (sAsg (dAl world_of (dAc (dVar 0) dA0)) (tName 2))
  (sSeq (sAsg (dAl barred_in (dAc (dVar 2) dA0)) (tName 3))
  (sSeq (sIf (bVal (d2 pIsNot (dVar 3) (dC .non))) (sRaise ("Barred" : Str) (dVar 3)) sNext)
  (sRet (dAl mended_in (dAc (dVar 2) (dAc (dVar 1) dA0)))))))))
noncomputable def want_few : List PV → M PV := dFn 1 1
  (sIf (bVal (d2 pGt (dAl qLen (dAc (d2 pIx (dVar 0) (dC (.int 0))) dA0)) (dC (.int 10)))) (sRaise ("TooMany" : Str) (dAl qLen (dAc (d2 pIx (dVar 0) (dC (.int 0))) dA0))) sNext)
noncomputable def all_parts : List PV → M PV := dFn 1 1
  (sRet (dAl parts_in (dAc (dVar 0) (dAc (d1 qTupRg (dAl qLen (dAc (d2 pIx (dVar 0) (dC (.int 0))) dA0))) dA0))))
noncomputable def all_ways_of : Nat → Nat → List PV → M PV
  | 0, _ => fun _ _ => .fail
  | n + 1, 0 => dFn 3 4
      (sSeq (sIf (bVal (d2 pNotIn (dVar 1) (dVar 2))) (sAsg (dAl qSum2 (dAc (dCompL (iSeq (dAl free_in (dAc (dVar 0) (dAc (dVar 1) dA0)))) (tName 3) bYes (dAl (all_ways_of n 2) (dAc (dVar 0) (dAc (dVar 1) (dAc (dVar 3) (dAc (dVar 2) dA0))))) [3] mLst) dA0)) (tSub (dVar 2) (dVar 1))) sNext)
      (sRet (d2 pIx (dVar 2) (dVar 1))))
  | n + 1, 1 => dFn 4 4
      (sRet (d2 pMul (dAl qLen (dAc (dAl over_in (dAc (dVar 0) (dAc (dVar 1) (dAc (dVar 2) dA0)))) dA0)) (dAl (all_ways_of n 0) (dAc (dVar 0) (dAc (dVar 2) (dAc (dVar 3) dA0))))))
  | n + 1, 2 => dFn 4 6
      (sSeq (sAsg (dC (.int 1)) (tName 4))
      (sSeq (sFor (iSeq (dAl parts_in (dAc (dVar 0) (dAc (dAl without (dAc (dVar 1) (dAc (dVar 2) dA0))) dA0)))) (tName 5) (sAsg (d2 pMul (dVar 4) (dAl (all_ways_of n 1) (dAc (dVar 0) (dAc (dVar 2) (dAc (dVar 5) (dAc (dVar 3) dA0)))))) (tName 4)) [5])
      (sRet (dVar 4))))
  | _ + 1, _ => fun _ _ => .fail
noncomputable def ways_of_all : List PV → M PV := dFn 2 4
  (sSeq (sAsg (dC (.int 1)) (tName 2))
  (sSeq (sFor (iSeq (dAl all_parts (dAc (dVar 0) dA0))) (tName 3) (sAsg (d2 pMul (dVar 2) (dAl (all_ways_of 40 0) (dAc (dVar 0) (dAc (dVar 3) (dAc (dVar 1) dA0))))) (tName 2)) [3])
  (sRet (dVar 2))))
noncomputable def count : List PV → M PV := dFn 1 1
  (sSeq (sAsg (dAl made_book (dAc (dVar 0) dA0)) (tName 0))
  (sSeq (sExpr (dAl want_few (dAc (dVar 0) dA0)))
  (sRet (dAl ways_of_all (dAc (dAl world_of (dAc (dVar 0) dA0)) (dAc dNewT dA0))))))
noncomputable def free : List PV → M PV := dFn 2 3
  (sSeq (sAsg (dAl made_book (dAc (dVar 0) dA0)) (tName 0))
  (sSeq (sExpr (dAl want_lot (dAc (d2 pIx (dVar 0) (dC (.int 0))) (dAc (dVar 1) dA0))))
  (sSeq (sAsg (dAl world_of (dAc (dVar 0) dA0)) (tName 2))
  (sSeq (sIf (bVal (d2 pNe (dAl parts_in (dAc (dVar 2) (dAc (dVar 1) dA0))) (dAl mTup (dAc (dVar 1) dA0)))) (sRaise ("BadLot" : Str) (d1 pNeg (dC (.int 1)))) sNext)
  (sRet (dAl free_in (dAc (dVar 2) (dAc (dVar 1) dA0))))))))
noncomputable def over : List PV → M PV := dFn 3 3
  (sSeq (sAsg (dAl made_book (dAc (dVar 0) dA0)) (tName 0))
  (sSeq (sExpr (dAl want_thing (dAc (d2 pIx (dVar 0) (dC (.int 0))) (dAc (dVar 1) dA0))))
  (sSeq (sExpr (dAl want_lot (dAc (d2 pIx (dVar 0) (dC (.int 0))) (dAc (dVar 2) dA0))))
  (sSeq (sIf (bVal (d2 pIn (dVar 1) (dVar 2))) (sRaise ("BadLot" : Str) (dVar 1)) sNext)
  (sRet (dAl over_in (dAc (dAl world_of (dAc (dVar 0) dA0)) (dAc (dVar 1) (dAc (dVar 2) dA0)))))))))
noncomputable def linked : List PV → M PV := dFn 3 3
  (sSeq (sAsg (dAl made_book (dAc (dVar 0) dA0)) (tName 0))
  (sSeq (sExpr (dAl want_pair (dAc (d2 pIx (dVar 0) (dC (.int 0))) (dAc (dVar 1) (dAc (dVar 2) dA0)))))
  (sRet (d2 pNotIn (dC (.tup [(.str ("apart" : Str)), (.int 0)])) (dAl lets_of (dAc (dVar 0) (dAc (dVar 1) (dAc (dVar 2) dA0))))))))
noncomputable def over_in__F : List PV → M PV := dFn 3 4
  (sRet (dAl qTupF (dAc (dCompL (iRg1 (d2 pIx (d2 pIx (dVar 0) (dC (.int 0))) (dVar 1))) (tName 3) (bVal (d2 pEq (dAl shut_out (dAc (dVar 0) (dAc (dVar 1) (dAc (dVar 3) (dAc (dVar 2) dA0))))) (dAl mTup dA0))) (dVar 3) [3] mLst) dA0)))
noncomputable def number_within : Nat → List PV → M PV
  | 0 => fun _ _ => .fail
  | n + 1 => dFn 4 11
      (sSeq (sAsg (dAl least_deep (dAc (dVar 2) (dAc (dVar 1) dA0))) (tName 4))
      (sSeq (sAsg (dAl qSum2 (dAc (dCompL (iSeq (dAl free_in (dAc (dVar 0) (dAc (dVar 1) dA0)))) (tName 10) (bVal (d2 pLt (dVar 10) (dVar 4))) (dAl (all_ways_of 40 2) (dAc (dVar 0) (dAc (dVar 1) (dAc (dVar 10) (dAc (dVar 3) dA0))))) [10] mLst) dA0)) (tName 5))
      (sSeq (sAsg (dC (.int 0)) (tName 6))
      (sSeq (sFor (iSeq (dAl parts_in (dAc (dVar 0) (dAc (dAl without (dAc (dVar 1) (dAc (dVar 4) dA0))) dA0)))) (tName 7) (sSeq (sAsg (dM isFt mIndexF (dAl over_in__F (dAc (dVar 0) (dAc (dVar 4) (dAc (dVar 7) dA0)))) (dAc (dAl room_way (dAc (dVar 2) (dAc (d2 pIx (dVar 7) (dC (.int 0))) (dAc (dVar 4) dA0)))) dA0)) (tName 8))
      (sSeq (sAsg (d2 pAdd (d2 pMul (dVar 8) (dAl (all_ways_of 40 0) (dAc (dVar 0) (dAc (dVar 7) (dAc (dVar 3) dA0))))) (dAl (number_within n) (dAc (dVar 0) (dAc (dVar 7) (dAc (dVar 2) (dAc (dVar 3) dA0)))))) (tName 9))
      (sAsg (d2 pAdd (d2 pMul (dVar 6) (dAl (all_ways_of 40 1) (dAc (dVar 0) (dAc (dVar 4) (dAc (dVar 7) (dAc (dVar 3) dA0)))))) (dVar 9)) (tName 6)))) [7, 8, 9])
      (sRet (d2 pAdd (dVar 5) (dVar 6)))))))
noncomputable def number : List PV → M PV := dFn 2 6
  (sSeq (sAsg (dAl made_book (dAc (dVar 0) dA0)) (tName 0))
  (sSeq (sAsg (dAl made_forest (dAc (d2 pIx (dVar 0) (dC (.int 0))) (dAc (dVar 1) dA0))) (tName 1))
  (sSeq (sExpr (dAl want_few (dAc (dVar 0) dA0)))
  (sSeq (sAsg (dAl world_of (dAc (dVar 0) dA0)) (tName 2))
  (sSeq (sIf (bNot (bTruth (dAl is_least (dAc (dVar 2) (dAc (dVar 1) dA0))))) (sRaise ("NotLeast" : Str) (dC (.int 0))) sNext)
  (sSeq (sAsg dNewT (tName 3))
  (sSeq (sAsg (dC (.int 0)) (tName 4))
  (sSeq (sFor (iSeq (dAl all_parts (dAc (dVar 2) dA0))) (tName 5) (sAsg (d2 pAdd (d2 pMul (dVar 4) (dAl (all_ways_of 40 0) (dAc (dVar 2) (dAc (dVar 5) (dAc (dVar 3) dA0))))) (dAl (number_within 40) (dAc (dVar 2) (dAc (dVar 5) (dAc (dVar 1) (dAc (dVar 3) dA0)))))) (tName 4)) [5])
  (sRet (dVar 4))))))))))
noncomputable def Course____init__ : List PV → M PV := dFnK 4 4
  (sSeq (sFldS [("Course" : Str)] ("world" : Str) (dVar 0) (dVar 1))
  (sSeq (sFldS [("Course" : Str)] ("here" : Str) (dVar 0) (dVar 2))
  (sSeq (sFldS [("Course" : Str)] ("goal" : Str) (dVar 0) (dVar 3))
  (sFldS [("Course" : Str)] ("row" : Str) (dVar 0) (dAl mLstR dA0)))))
noncomputable def outermost : List PV → M PV := dFn 2 3
  (sRet (d2 pIx (dCompL (iSeq (dVar 1)) (tName 2) (bOr (bVal (d2 pIs (d2 pIx (dVar 0) (dVar 2)) (dC .non))) (bVal (d2 pNotIn (d2 pIx (d2 pIx (dVar 0) (dVar 2)) (dC (.int 0))) (dVar 1)))) (dVar 2) [2] mLst) (dC (.int 0))))
noncomputable def behind : List PV → M PV := dFn 3 3
  (sRet (dAl all_put (dAc (dVar 1) (dAc (dAl deed_hangs (dAc (dVar 0) (dAc (dVar 1) (dAc (dVar 2) dA0)))) dA0))))
noncomputable def Course__do : List PV → M PV := dFnK 4 5
  (sSeq (sAsg (dAl mTup (dAc (dVar 1) (dAc (dVar 2) (dAc (dVar 3) dA0)))) (tName 4))
  (sSeq (sFldS [("Course" : Str)] ("here" : Str) (dVar 0) (dAl behind (dAc (dFld [("Course" : Str)] ("world" : Str) (dVar 0)) (dAc (dFld [("Course" : Str)] ("here" : Str) (dVar 0)) (dAc (dVar 4) dA0)))))
  (sExpr (dM isL mAppend (dFld [("Course" : Str)] ("row" : Str) (dVar 0)) (dAc (dVar 4) dA0)))))
noncomputable def Course__raise_in : List PV → M PV := dFnK 3 4
  (sWhile (bVal (d2 pNe (dAl outermost (dAc (dFld [("Course" : Str)] ("here" : Str) (dVar 0)) (dAc (dVar 1) dA0))) (dVar 2))) (sSeq (sAsg (d2 pIx (d2 pIx (dFld [("Course" : Str)] ("here" : Str) (dVar 0)) (dVar 2)) (dC (.int 0))) (tName 3))
  (sExpr (dMe ("Course" : Str) ("do" : Str) Course__do (dVar 0) (dAc (dC (.str ("turn" : Str))) (dAc (dVar 2) (dAc (dAl room_way (dAc (dFld [("Course" : Str)] ("goal" : Str) (dVar 0)) (dAc (dVar 3) (dAc (dVar 2) dA0)))) dA0)))))) [3])
noncomputable def Course__lead : Nat → List PV → M PV
  | 0 => fun _ _ => .fail
  | n + 1 => dFnK 2 6
      (sSeq (sAsg (dAl outermost (dAc (dFld [("Course" : Str)] ("goal" : Str) (dVar 0)) (dAc (dVar 1) dA0))) (tName 2))
      (sSeq (sExpr (dMe ("Course" : Str) ("raise_in" : Str) Course__raise_in (dVar 0) (dAc (dVar 1) (dAc (dVar 2) dA0))))
      (sFor (iSeq (dAl parts_in (dAc (dFld [("Course" : Str)] ("world" : Str) (dVar 0)) (dAc (dAl without (dAc (dVar 1) (dAc (dVar 2) dA0))) dA0)))) (tName 3) (sSeq (sAsg (dAl outermost (dAc (dFld [("Course" : Str)] ("here" : Str) (dVar 0)) (dAc (dVar 3) dA0))) (tName 4))
      (sSeq (sAsg (dAl room_way (dAc (dFld [("Course" : Str)] ("goal" : Str) (dVar 0)) (dAc (d2 pIx (dVar 3) (dC (.int 0))) (dAc (dVar 2) dA0)))) (tName 5))
      (sSeq (sIf (bVal (d2 pNe (d2 pIx (d2 pIx (dFld [("Course" : Str)] ("here" : Str) (dVar 0)) (dVar 4)) (dC (.int 1))) (dVar 5))) (sExpr (dMe ("Course" : Str) ("do" : Str) Course__do (dVar 0) (dAc (dC (.str ("shift" : Str))) (dAc (dVar 4) (dAc (dVar 5) dA0))))) sNext)
      (sExpr (dMe ("Course" : Str) ("lead" : Str) (Course__lead n) (dVar 0) (dAc (dVar 3) dA0)))))) [3, 4, 5])))
noncomputable def walk : List PV → M PV := dFn 3 7
  (sSeq (sAsg (dAl made_book (dAc (dVar 0) dA0)) (tName 0))
  (sSeq (sAsg (d2 pIx (dVar 0) (dC (.int 0))) (tName 3))
  (sSeq (sAsg (dAl made_forest (dAc (dVar 3) (dAc (dVar 1) dA0))) (tName 1))
  (sSeq (sAsg (dAl made_forest (dAc (dVar 3) (dAc (dVar 2) dA0))) (tName 2))
  (sSeq (sAsg (dAl world_of (dAc (dVar 0) dA0)) (tName 4))
  (sSeq (sIf (bNot (bTruth (dAl is_least (dAc (dVar 4) (dAc (dVar 1) dA0))))) (sRaise ("NotLeast" : Str) (dC (.int 0))) sNext)
  (sSeq (sIf (bNot (bTruth (dAl is_least (dAc (dVar 4) (dAc (dVar 2) dA0))))) (sRaise ("NotLeast" : Str) (dC (.int 1))) sNext)
  (sSeq (sAsg (dAl (dMk ("Course" : Str) Course____init__) (dAc (dVar 4) (dAc (dVar 1) (dAc (dVar 2) dA0)))) (tName 5))
  (sSeq (sFor (iSeq (dAl parts_in (dAc (dVar 4) (dAc (d1 qTupRg (dAl qLen (dAc (dVar 3) dA0))) dA0)))) (tName 6) (sExpr (dMe ("Course" : Str) ("lead" : Str) (Course__lead 40) (dVar 5) (dAc (dVar 6) dA0))) [6])
  (sRet (dAl qTup (dAc (dFld [("Course" : Str)] ("row" : Str) (dVar 5)) dA0))))))))))))
end Lib
set_option maxHeartbeats 2000000
namespace DN
open PySem PySem.Spec PyProof.Rows L2
section
variable {X : Cx} {T : TR} {E : XK} {o e value : Expr} {fo fv fi : DE} {f : Str} {Cs : List Str} {pos pos' : Pos}
def tFld (Cs : List Str) (f : Str) (fo : DE) : DT := fun v σ st => (fo σ st).bind fun p st => (pFldS Cs f v p st).bind fun _ st => .ok σ st
def pDel (p k : PV) : M Unit := fun st => match p with
  | .ref n => (match st[n]?, kOf k with
    | some (.dK es), some q => if (look es q).isSome = true then .ok () (st.set n (.dK (es.filter fun e => !decide (e.1 = q)))) else .fail
    | _, _ => .fail)
  | _ => .fail
def sDel (fo fi : DE) : DS := fun σ st => (fo σ st).bind fun p st => (fi σ st).bind fun k st => (pDel p k st).bind fun _ st => .ok (.nx, σ) st
end
end DN
set_option maxHeartbeats 4000000
namespace DN
open PySem PySem.Spec PyProof.Rows L2
section
variable {K : PySem.W.Frag} {mg : Str → Option Value} {T T' : TR} {ρ ρ' : List Addr} {H H' : Hp}
structure Cmv (T : TR) (ρ : List Addr) (H : Hp) (T' : TR) (ρ' : List Addr) (H' : Hp) : Prop where
  keep : ∀ a u, Rd H a u → Out T ρ a → (∀ ps, u ≠ .tbl ps) → Rd H' a u ∧ Out T' ρ' a
  tups : ∀ a u, TU u → H a = some u → H' a = some u
  er : ∀ q, T.err = some q → T'.err = some q
  lm : ∀ q, T.lam = some q → T'.lam = some q
mutual
theorem Rl.cmv (e : Cmv T ρ H T' ρ' H') : ∀ {p : PV} {v : V}, cl p = true → Rl ⟨K, mg, T⟩ ρ H p v → Rl ⟨K, mg, T'⟩ ρ' H' p v
  | _, _, _, .non => .non
  | _, _, _, .bl b => .bl b
  | _, _, _, .int i => .int i
  | _, _, _, .str x => .str x
  | _, _, _, .ty n => .ty n
  | _, _, c, .tup h r => .tup (h.elim (fun ⟨o, p, h⟩ => .inl ⟨o, p, e.tups _ _ (mkT_tu _ _ _) h⟩) .inr) (RlAll.cmv e (by simpa only [cl] using c) r)
  | _, _, c, .ftp h r => .ftp (h.elim fun o h => ⟨o, h.1, e.tups _ _ trivial h.2⟩) (RlAll.cmv e (by simpa only [cl] using c) r)
  | _, _, c, .lst h r => .lst (e.keep _ _ h.1 h.2 (fun _ z => by cases z)) (RlAll.cmv e (by simpa only [cl] using c) r)
  | _, _, c, .dK h n k r => .dK (e.keep _ _ h n (fun _ z => by cases z)).1 (e.keep _ _ h n (fun _ z => by cases z)).2 k (RlAll.cmv e (by simpa only [cl] using c) r)
  | _, _, c, .dT h n k r => .dT (e.keep _ _ h n (fun _ z => by cases z)).1 (e.keep _ _ h n (fun _ z => by cases z)).2 k (RlAll.cmv e (by simpa only [cl] using c) r)
  | _, _, c, .ref h => by simp only [cl] at c; cases c
  | _, _, _, .con h => .con h
  | _, _, c, .scr h r => .scr (h.imp (fun h => e.keep _ _ h.1 h.2 (fun _ z => by cases z)) id) (RlAll.cmv e (by simpa only [cl] using c) r)
  | _, _, c, .err q h n r => .err (e.er _ q) (e.keep _ _ h n (fun _ z => by cases z)).1 (e.keep _ _ h n (fun _ z => by cases z)).2 (Rl.cmv e (by simpa only [cl] using c) r)
  | _, _, c, .fnv q h r => .fnv (e.lm _ q) (e.tups _ _ trivial h) (RlAll.cmv e (by simpa only [cl] using c) r)
theorem RlAll.cmv (e : Cmv T ρ H T' ρ' H') : ∀ {ps : List PV} {vs : List V}, cls ps = true → RlAll ⟨K, mg, T⟩ ρ H ps vs → RlAll ⟨K, mg, T'⟩ ρ' H' ps vs
  | _, _, _, .nil => .nil
  | _, _, c, .cons r t => by
    simp only [cls, Bool.and_eq_true] at c
    exact .cons (Rl.cmv e c.1 r) (RlAll.cmv e c.2 t)
end
def mkc (σ : AE) : AE := σ.map fun o => match o with
  | some p => if cl p = true then some p else none
  | none => none
theorem mkc_cl {σ : AE} {i : Nat} {p : PV} (h : (mkc σ)[i]? = some (some p)) : σ[i]? = some (some p) ∧ cl p = true := by
  unfold mkc at h
  rw [List.getElem?_map] at h
  obtain ⟨o, h1, h2⟩ := Option.map_eq_some_iff.mp h
  cases o with
  | none => cases h2
  | some q =>
    simp only at h2
    split at h2
    · cases h2; exact ⟨h1, by assumption⟩
    · cases h2
theorem RlE.cmv (e : Cmv T ρ H T' ρ' H') {aσ : AE} {σ : St} (h : RlE ⟨K, mg, T⟩ ρ H aσ σ) : RlE ⟨K, mg, T'⟩ ρ' H' (mkc aσ) σ := ⟨by rw [← h.len]; simp [mkc], fun i p hp => by
  obtain ⟨h1, h2⟩ := mkc_cl hp
  obtain ⟨v, ev, r⟩ := h.at_ i p h1
  exact ⟨v, ev, r.cmv e h2⟩⟩
end
def kp : Key → PV
  | .inl i => .int i
  | .inr x => .str x
noncomputable def itF (t : DT) (b : DS) (w : List Nat) : List (Key × PV) → AE → Option AE
  | [], σ => some (mkc (wipeA σ w))
  | (k, v) :: r, σ => match t (.tup [kp k, v]) σ [] with
    | .ok σ1 st1 => (match b σ1 st1 with
      | .ok (.nx, σ2) _ => itF t b w r (mkc (wipeA σ2 w))
      | _ => none)
    | _ => none
def itR (Cs : List Str) (f : Str) (i jx jy : Nat) (σ : AE) (st : Store) : Option (List (Key × PV)) := match σ[i]?, σ[jx]?, σ[jy]? with
  | some (some (.ref s)), some (some (.int x)), some (some (.int y)) => (match st[s]? with
    | some (.ins C fs) => if C ∈ Cs then (match fs.lookup f with
      | some (.ref r) => (match st[r]? with
        | some (.dT es) => (match look es [.inl x, .inl y] with
          | some (.ref n) => (match st[n]? with
            | some (.dK ks) => if cls (ks.map (·.2)) = true then some ks else none
            | _ => none)
          | _ => none)
        | _ => none)
      | _ => none) else none
    | _ => none)
  | _, _, _ => none
noncomputable def sItems (Cs : List Str) (f : Str) (i jx jy : Nat) (t : DT) (b : DS) (w : List Nat) : DS := fun σ st => match itR Cs f i jx jy σ st with
  | some ks => (match itF t b w ks (mkc σ) with
    | some σ' => .ok (.nx, σ') st
    | none => .fail)
  | none => .fail
section
variable {X : Cx} {T : TR} {E : XK} {tb : TBL} {body : List Stmt} {t : DT} {b : DS} {Cs : List Str} {f xs xx xy : Str} {i jx jy : Nat} {elts : List Expr} {kk k2 : Nat} {tpos apos cpos p1 p2 p3 p4 p5 p6 pos : Pos}
end
end DN
set_option maxHeartbeats 2000000
namespace DN
open PySem PySem.Spec PyProof.Rows L2
variable {Xp : EP}
section
variable {Q : PV → Store → Prop} {QU : Unit → Store → Prop} {QB : Bool → Store → Prop} {σ : AE} {st : Store} {s : DI} {t : DT} {c : DB} {k v f g : DE} {n : Nat} {w : List Nat} {o : SO}
@[simp] theorem wp_dDc {b : Nat → AE → M Unit} : (wpX Xp) (dDc o s t c b w σ st) Q = (wpX Xp) (s σ st) fun r st => (wpX Xp) (dcL t c (b st.length) r.2 (wipeA σ w) r.1 (st ++ [o])) fun _ st' => Q (.ref st.length) st' := by simp [dDc]
@[simp] theorem wp_dcP : (wpX Xp) (dcP k v n σ st) QU = wpX EF (k σ st) fun x st => wpX EF (v σ st) fun y st => isDc n st = true ∧ wpX EF (pSet (.ref n) x y st) QU := by
  simp only [dcP, wp_bind, wp_noX]
  congr 1; funext x st; congr 1; funext y st
  split <;> simp [*]
@[simp] theorem wp_dcS {b : AE → M Unit} : (wpX Xp) (dcS s t c w b σ st) QU = wpX EF (s σ st) fun r st => (wpX Xp) (dcL t c b r.2 (wipeA σ w) r.1 st) QU := by
  simp only [dcS, wp_bind, wp_noX]
@[simp] theorem wp_truthTup {l : List PV} : (wpX Xp) (pTruth (.tup l) st) QB = QB (!l.isEmpty) st := by simp only [pTruth, wp_ok]
@[simp] theorem wp_truthLst {l : List PV} : (wpX Xp) (pTruth (.lst l) st) QB = QB (!l.isEmpty) st := by simp only [pTruth, wp_ok]
@[simp] theorem wp_tupRg {i : Int} : (wpX Xp) (qTupRg (.int i) st) Q = ((0 ≤ i ∧ i ≤ 1000000) ∧ Q (.tup (rgP 0 i)) st) := by simp [qTupRg]
@[simp] theorem wp_lstRg {i : Int} : (wpX Xp) (qLstRg (.int i) st) Q = ((0 ≤ i ∧ i ≤ 1000000) ∧ Q (.lst (rgP 0 i)) st) := by simp [qLstRg]
@[simp] theorem wp_lstRgR {i : Int} : (wpX Xp) (qLstRgR (.int i) st) Q = ((0 ≤ i ∧ i ≤ 1000000) ∧ Q (.ref st.length) (st ++ [.lst (rgP 0 i)])) := by simp [qLstRgR]
@[simp] theorem wp_addR {x y : List PV} : (wpX Xp) (pAddR (.lst x) (.lst y) st) Q = (x.length + y.length ≤ SZ ∧ Q (.ref st.length) (st ++ [.lst (x ++ y)])) := by simp [pAddR, asL]
end
end DN
namespace DN
open PySem PySem.Spec PyProof.Rows L2
variable {Xp : EP}
section
variable {Q : PV → Store → Prop} {QI : Src → Store → Prop} {st : Store} {σ : AE} {N : AE → Store → Prop} {R : PV → Store → Prop} {B C : AE → Store → Prop} {b : DS} {w : List Nat} {n : Nat}
open Classical in
theorem wp_srcR {l : List PV} (h : st[n]? = some (.lst l)) : (wpX Xp) (srcOf (.ref n) st) QI = QI (l, fun st => decide (st[n]? = some (.lst l))) st := by
  simp only [srcOf, h, wp_ok]
theorem wp_lcIS {t : DT} {c : DB} {e : DE} {okS : Store → Bool} {QL : List PV → Store → Prop} (I : List PV → List PV → Store → Prop) (ho : ∀ a l st, I a l st → okS st = true) : ∀ (l : List PV) (st : Store), I [] l st →
    (∀ acc p r st, I acc (p :: r) st → wpX EF (t p σ st) fun σ1 st1 => wpX EF (c σ1 st1) fun b st2 => cnd b (wpX EF (e σ1 st2) fun v st3 => I (acc ++ [v]) r st3) (I acc r st2)) → (∀ acc st, I acc [] st → QL acc st) → (wpX Xp) (lcI t c e okS σ l st) QL := by
  have key : ∀ (l : List PV) (st : Store) (acc : List PV), I acc l st → (∀ acc p r st, I acc (p :: r) st → wpX EF (t p σ st) fun σ1 st1 => wpX EF (c σ1 st1) fun b st2 => cnd b (wpX EF (e σ1 st2) fun v st3 => I (acc ++ [v]) r st3) (I acc r st2)) →
      (wpX Xp) (lcI t c e okS σ l st) fun vs st => I (acc ++ vs) [] st := by
    intro l
    induction l with
    | nil =>
      intro st acc h _
      unfold lcI
      rw [if_pos (ho _ _ _ h)]
      simpa using h
    | cons p r ih =>
      intro st acc h hs
      unfold lcI
      rw [if_pos (ho _ _ _ h)]
      simp only [wp_bind, wp_noX]
      refine wp_mono (hs acc p r st h) fun σ1 st1 h => wp_mono h fun b st2 h => ?_
      cases b with
      | true =>
        simp only [cnd_true, if_true, wp_bind, wp_noX] at h ⊢
        refine wp_mono h fun v st3 h => wp_mono (ih st3 _ h hs) fun vs st4 h => ?_
        simpa using h
      | false =>
        simp only [cnd_false, Bool.false_eq_true, if_false] at h ⊢
        exact ih st2 acc h hs
  intro l st h hs hf
  refine wp_mono (key l st [] h hs) fun vs st h => hf vs st (by simpa using h)
open Classical in
theorem wp_lcRM {α : Type} {g : α → PV} {t : DT} {c : DB} {e : DE} {l0 : List PV} {QL : List PV → Store → Prop} (P : List α → List PV → Store → Prop) (l : List α) (st : Store) (hk : ∀ r a st, P r a st → st[n]? = some (.lst l0))
    (hs : ∀ I : List α → List PV → Store → Prop, (∀ i σ st, P i σ st → I i σ st) → ∀ p r acc st, P (p :: r) acc st → wpX EF (t (g p) σ st) fun σ1 st1 => wpX EF (c σ1 st1) fun b st2 => cnd b (wpX EF (e σ1 st2) fun v st3 => I r (acc ++ [v]) st3) (I r acc st2))
    (hf : ∀ acc st, P [] acc st → QL acc st) (h : P l [] st) : (wpX Xp) (lcI t c e (fun st => decide (st[n]? = some (.lst l0))) σ (l.map g) st) QL := by
  refine wp_lcIS (fun acc m st => ∃ r, m = r.map g ∧ P r acc st) ?_ _ st ⟨l, rfl, h⟩ ?_ ?_
  · rintro _ _ st ⟨r, _, h⟩
    exact decide_eq_true (hk _ _ _ h)
  · rintro acc p m st ⟨r, e, h⟩
    cases r with
    | nil => cases e
    | cons a r =>
      cases e
      refine wp_mono (hs P (fun _ _ _ h => h) a r acc st h) fun σ1 st1 h => wp_mono h fun b st2 h => ?_
      cases b with
      | true =>
        simp only [cnd_true] at h ⊢
        exact wp_mono h fun v st3 h => ⟨_, rfl, h⟩
      | false =>
        simp only [cnd_false] at h ⊢
        exact ⟨_, rfl, h⟩
  · rintro acc st ⟨r, e, h⟩
    cases r with
    | nil => exact hf acc st h
    | cons a r => cases e
end
end DN
namespace DN
open PySem PySem.Spec PyProof.Rows L2
variable {Xp : EP}
section
variable {Q : PV → Store → Prop} {st st' : Store} {σ : AE} {g : List PV → M PV} {i n m N s : Nat} {fs : DA} {f : DE} {qs : List PV} {js : List Nat} {D : (List PV → M PV) → List PV → M PV}
@[simp] theorem wp_ask : (wpX Xp) (dAsk g i fs σ st) Q = ∃ cs, σ[i]? = some (some (.fnv cs)) ∧ (wpX Xp) (fs σ st) fun ps st => (wpX Xp) (g (ps ++ cs) st) Q := by
  unfold dAsk
  split
  · rename_i cs h
    rw [wp_bind]
    apply propext
    exact ⟨fun z => ⟨cs, h, z⟩, fun ⟨cs', e, z⟩ => by rw [h] at e; cases e; exact z⟩
  · rename_i h
    rw [wp_fail]
    apply propext
    exact ⟨fun z => z.elim, fun ⟨cs', e, z⟩ => h cs' e⟩
theorem wp_gcR {r : Res PV} (h : wpX (gx st Xp) r fun v st' => Gc st v st' Q) : (wpX Xp) (gcR st r) Q := by
  cases r with
  | ok v st' =>
    rw [wp_ok] at h
    obtain ⟨v', s, e1, e2, q⟩ := h
    simp only [gcR, e1, e2, wp_ok]
    exact q
  | exc c v st' =>
    rw [wp_exc] at h
    obtain ⟨v', s, e1, e2, q⟩ := h
    simp only [gcR, e1, e2]
    rw [wp_exc]
    exact q
  | fail => exact (nwF h).elim
theorem wp_lamF (hl : qs.length = n + m) (h : wpX (gx st Xp) (f (qs.map some ++ List.replicate (N - (n + m)) none) st) fun v st' => Gc st v st' Q) : (wpX Xp) (dLamF n m N f qs st) Q := by
  unfold dLamF
  rw [if_pos hl]
  exact wp_gcR h
theorem wp_unF {r : Res PV} (h : wpX (fun c w st' => noF w = true ∧ samF st st' ∧ Xp c w st') r fun v st' => noF v = true ∧ samF st st' ∧ Q v st') : (wpX Xp) (unF st r) Q := by
  cases r with
  | ok v st' =>
    rw [wp_ok] at h
    simp only [unF, h.1, h.2.1, and_self, if_true, wp_ok]
    exact h.2.2
  | exc c v st' =>
    rw [wp_exc] at h
    simp only [unF, h.1, h.2.1, and_self, if_true]
    rw [wp_exc]
    exact h.2.2
  | fail => exact (nwF h).elim
abbrev EL (st : Store) (X : EP) : EP := fun c w st' => noF w = true ∧ samF st st' ∧ X c w st'
theorem wp_lam1 {cs : List PV} (hc : capsOf σ js = some cs) (h : wpX (EL st Xp) (D g [.fnv cs] st) fun v st' => noF v = true ∧ samF st st' ∧ Q v st') : (wpX Xp) (dLam1 D g js σ st) Q := by
  simp only [dLam1, hc]
  exact wp_unF h
theorem samF_rfl : samF st st := fun _ _ h => .inl h
end
mutual
theorem toD0_noF : ∀ {p : PV} {d : PyData}, toD0 p = some d → noF p = true
  | .non, _, _ => by simp [noF]
  | .bl _, _, _ => by simp [noF]
  | .int _, _, _ => by simp [noF]
  | .str _, _, _ => by simp [noF]
  | .tup l, d, h => by
    simp only [toD0] at h
    obtain ⟨ds, e, _⟩ := Option.map_eq_some_iff.mp h
    simp only [noF]
    exact toD0s_noF e
  | .lst l, d, h => by
    simp only [toD0] at h
    obtain ⟨ds, e, _⟩ := Option.map_eq_some_iff.mp h
    simp only [noF]
    exact toD0s_noF e
  | .dK _ _, _, h => by simp [toD0] at h
  | .dT _ _, _, h => by simp [toD0] at h
  | .ref _, _, _ => by simp [noF]
  | .con _, _, _ => by simp [noF]
  | .ty _, _, _ => by simp [noF]
  | .scr l, d, h => by
    simp only [toD0] at h
    obtain ⟨ds, e, _⟩ := Option.map_eq_some_iff.mp h
    simp only [noF]
    exact toD0s_noF e
  | .err _ _, _, h => by simp [toD0] at h
  | .fnv _, _, h => by simp [toD0] at h
theorem toD0s_noF : ∀ {l : List PV} {ds : List PyData}, toD0s l = some ds → noFs l = true
  | [], _, _ => by simp [noFs]
  | p :: l, ds, h => by
    simp only [toD0s] at h
    obtain ⟨d, e1, h⟩ := Option.bind_eq_some_iff.mp h
    obtain ⟨ds', e2, _⟩ := Option.map_eq_some_iff.mp h
    simp only [noFs, toD0_noF e1, toD0s_noF e2, Bool.and_self]
end
end DN
namespace DN
open PySem PySem.Spec PyProof.Rows L2
section
variable {Xp : EP} {Q : PV → Store → Prop} {st : Store} {σ : AE} {N B C : AE → Store → Prop} {R : PV → Store → Prop} {f : Str} {Cs : List Str} {fo fi : DE} {t : DT} {b : DS} {w : List Nat} {i jx jy n : Nat}
@[simp] theorem wp_tFld {v : PV} {QT : AE → Store → Prop} : (wpX Xp) (tFld Cs f fo v σ st) QT = (wpX Xp) (fo σ st) fun p st => (wpX Xp) (pFldS Cs f v p st) fun _ st => QT σ st := by
  unfold tFld
  simp only [wp_bind, wp_ok]
@[simp] theorem wps_del : (wpsX Xp) (sDel fo fi σ st) N R B C = (wpX Xp) (fo σ st) fun p st => (wpX Xp) (fi σ st) fun k st => (wpX Xp) (pDel p k st) fun _ st => N σ st := by
  unfold sDel
  cases h1 : fo σ st with
  | ok v st1 =>
    simp only [Res.bind, wp_ok]
    cases h2 : fi σ st1 with
    | ok p st2 =>
      simp only [wp_ok]
      cases h3 : pDel v p st2 with
      | ok a st3 => simp only [wp_ok, wps_nx]
      | exc _ _ _ => simp only [wp_exc, wps_exc]
      | fail => simp [wpsX, wpX]
    | exc _ _ _ => simp only [wp_exc, wps_exc]
    | fail => simp [wpsX, wpX]
  | exc _ _ _ => simp only [Res.bind, wp_exc, wps_exc]
  | fail => simp [wpsX, wpX, Res.bind]
end
end DN
set_option maxHeartbeats 4000000
namespace DN
open PySem PySem.Spec PyProof.Rows L2
abbrev TR.un (T : TR) : TR := ⟨T.tabs, T.res, T.err, none⟩
section
variable {X : Cx} {T : TR} {E : XK} {x : Str} {ps : List Str} {k j : Nat} {tb : List (Addr × Str)} {L : Lm} {d : List PV → M PV} {e : Expr} {es : List Expr} {fs : DA} {p pos : Pos}
end
end DN
set_option maxHeartbeats 2000000
namespace DN
open PySem PySem.Spec PyProof.Rows L2
section
variable {X : Cx} {T : TR} {E : XK} {G : DG} {ρ : List Addr} {H : Hp} {σ : St} {aσ : AE} {st : Store}
variable {e o : Expr} {es : List Expr} {fs : DA} {f fo : DE} {pos p apos cpos : Pos}
end
section
variable {X : EP} {Q : PV → Store → Prop} {st : Store} {p : PV} {l : List Int} {i : Int}
end
end DN
set_option maxHeartbeats 4000000
namespace DN
open PySem PySem.Spec PyProof.Rows L2
def strs? : List PV → Option (List Str)
  | [] => some []
  | .str i :: r => (strs? r).map fun l => i :: l
  | _ :: _ => none
section
variable {X : Cx} {T : TR} {E : XK} {G : DG} {ρ : List Addr} {H : Hp} {st : Store}
theorem strs_rl : ∀ {l : List PV} {xs : List V} {ns : List Str}, strs? l = some ns → RlAll G ρ H l xs → xs = ns.map V.str
  | [], xs, ns, h, r => by
    simp only [strs?, Option.some.injEq] at h
    subst h; cases r; rfl
  | p :: l, xs, ns, h, r => by
    cases p with
    | str i =>
      simp only [strs?] at h
      obtain ⟨ms, e, rfl⟩ := Option.map_eq_some_iff.mp h
      cases r with
      | cons r1 r2 =>
        cases r1
        rw [strs_rl e r2]
        rfl
    | _ => simp [strs?] at h
variable {e a b c : Expr} {fa fb fc f : DE} {pos p : Pos} {es : List Expr} {fs : DA}
end
theorem strs_map : ∀ (l : List Str), strs? (l.map PV.str) = some l
  | [] => rfl
  | x :: r => by simp [strs?, strs_map r]
end DN
namespace DN
open PySem PySem.Spec PyProof.Rows L2
abbrev RoomE := L2H.RoomH
structure FnOkE (P : Program) (w : World) (K : PySem.W.Frag) (mg : Str → Option Value) (base : Heap) (k : Nat) (f : Addr) (fd : FuncData) (ps : List Str) (sp : Addr × Obj → Sp) : Prop where
  len : ∀ p vs H Q E, sp p vs H Q E → vs.length = ps.length
  run : ∀ (A : Around) (outer : List Env) (s : Shared) (H : Hp) (args : Args) (us : List Value) (vs : List V) (Q : VK) (E : XK) (p : Addr × Obj), RoomE k A → L2H.Hot1 A p → L2H.PinOk outer H s p → Env0 P w K mg base A outer s H → BindsTo s fd args (ps.zip us) → Vals vs us → sp p vs H Q E →
    codeAny (model P w) A (.call (.ref f) args) (CR (L2N.CX P w) outer P w H s Q E) s
abbrev cxE (P : Program) (w : World) (K : PySem.W.Frag) (mg : Str → Option Value) (base : Heap) (N : List Str) (qual : Str) (scope : Scope) (f : Addr) (cd : Value) (A : Around) (outer : List Env) (s : Shared) (H : Hp) (E : XK) (p : Addr × Obj) : Cx := L2H.cxH (L2N.CX P w) P w K mg base N qual scope f cd A outer s H E p
theorem FnOkE.ofD {P : Program} {w : World} {K : PySem.W.Frag} {mg : Str → Option Value} {base : Heap} {k : Nat} {f : Addr} {fd : FuncData} {N ps : List Str} {sp : Addr × Obj → Sp} {x qual : Str} {params : Arguments} {body : List Stmt} {scope : Scope} {dvs : List V} {kws : List (Str × V)} (F : FunD K x qual params body scope dvs kws f fd) (S : FnScope N ps scope)
    (len : ∀ p vs H Q E, sp p vs H Q E → vs.length = ps.length)
    (hbody : ∀ (cdv : Value) (A : Around) (outer : List Env) (s : Shared) (H : Hp) (vs : List V) (Q : VK) (E : XK) (p : Addr × Obj), RoomE k (A.deeper (envOfC qual scope s.heap.objs.size f cdv)) → L2H.Hot1 A p → sp p vs H Q E →
      ∃ t, PSs (cxE P w K mg base N qual scope f cdv A outer s H E p) body t ∧ t { nx := fun _ H' => Q .non H', rt := Q } (L2.start N vs) H) : FnOkE P w K mg base (k + 1) f fd ps sp := by
  obtain ⟨_, _, dV, kV, doc, pm, an, cdv, ct, _, rfl, lk, hcd, _, _⟩ := F.ex
  refine ⟨len, fun A outer s H args us vs Q E p hr hot hpin e0 hb r hsp => ?_⟩
  have hl := len _ _ _ _ _ hsp
  have KX : K.In s.heap := e0.mod.kin.keeps fun b o e => (e0.bs b o e).1
  have lim : s.heap.NoLimit := e0.mod.nolimit.keeps fun b o e => (e0.bs b o e).1
  have hkind : ∀ y ∈ ps.zip us, scope.names.lookup y.1 = some .local ∨ (scope.names.lookup y.1 = some .cell ∧ ((cellsFrom (s.heap.objs.size + 1) scope.names []).lookup y.1).isSome = true) := fun ⟨n, v⟩ hy => by
    rcases S.par n (List.of_mem_zip hy).1 with q | q
    · exact .inl q
    · exact .inr ⟨q, PySem.W.cellsFrom_some _ _ _ (.inl q)⟩
  refine codeAny_call_function hr.depth (KX _ _ lk) rfl S.co S.gen rfl (PySem.W.codeRec_of KX hcd) (hb _ _ _ _ ?_)
  refine wpAny_newFunctionEnv_cells S.kind hkind fun env he s1 x => ?_
  subst he
  refine ⟨lim.keeps x.toInCall.keep, codeAny_func ?_⟩
  obtain ⟨t, ht, hq⟩ := hbody cdv A outer s H vs Q E p (hr.deeper _) hot hsp
  have I : Inv (cxE P w K mg base N qual scope f cdv A outer s H E p) [] (L2.start N vs) H s1 := L2H.inv_startH S hpin e0 hl r x
  refine wpAny_mono (ht.run [] s1 (L2.start N vs) H _ I hq) (fun fl s' hs => ?_) fun e s' hs => hs
  have fin : ∀ {σ' : St} {H' : Hp} {v : V} {u : Value}, Inv (cxE P w K mg base N qual scope f cdv A outer s H E p) [] σ' H' s' → RelV v u → Q v H' → CE outer P w H s Q u s' :=
    fun {σ' H' v u} J rv q => ⟨v, H', J.os, J.bare, J.base, J.hok, rv, q⟩
  cases fl with
  | ret u =>
    obtain ⟨v, σ', H', J, rv, q⟩ := hs
    exact fin J rv q
  | next =>
    obtain ⟨σ', H', J, q⟩ := hs
    exact fin (v := V.non) (u := Value.none) J rfl q
  | brk =>
    obtain ⟨_, _, _, q⟩ := hs
    exact False.elim q
  | cont =>
    obtain ⟨_, _, _, q⟩ := hs
    exact False.elim q
def ErrQ (K : PySem.W.Frag) (mg : Str → Option Value) (c : Str) (d C : Addr) (oe : Obj) : Prop := mg c = some (.ref C) ∧ L2N.Zn (.ref C) (some d) oe ∧ (∃ vs, oe.data = .fields vs) ∧ ErrC K C
def spE (K : PySem.W.Frag) (mg : Str → Option Value) (tb : TBL) (n : Nat) (g : List PV → M PV) (p : Addr × Obj) : Sp := fun vs H Q E => ∃ (T : TR) (ρ : List Addr) (ps : List PV) (st : Store) (c : Str) (d C : Addr), Tok tb T ∧ ErrQ K mg c d C p.2 ∧ RlS ⟨K, mg, T.er (p.1, c, d)⟩ ρ H st ∧ RlAll ⟨K, mg, T.er (p.1, c, d)⟩ ρ H ps vs ∧ ps.length = n ∧ Pst ⟨K, mg, T.er (p.1, c, d)⟩ E ρ H (KV ⟨K, mg, T.er (p.1, c, d)⟩ Q) (g ps st)
structure FnE (P : Program) (w : World) (K : PySem.W.Frag) (mg : Str → Option Value) (base : Heap) (tb : TBL) (k : Nat) (f : Addr) (fd : FuncData) (ps : List Str) (g : List PV → M PV) : Prop where
  ok : FnOkE P w K mg base k f fd ps (spE K mg tb ps.length g)
  ar : ∀ qs st, g qs st ≠ .fail → qs.length = ps.length
section
variable {P : Program} {w : World} {K : PySem.W.Frag} {mg : Str → Option Value} {base : Heap} {x qual : Str} {params : Arguments} {body : List Stmt} {scope : Scope} {f : Addr} {fd : FuncData} {N ps : List Str} {k : Nat} {g : DS} {tb : TBL}
end
section
variable {X : Cx} {T : TR} {E : XK} {x : Str} {f : Addr} {fd : FuncData} {ps : List Str} {k : Nat} {tb : TBL} {g : List PV → M PV} {e : Expr} {es : List Expr} {fs : DA} {p pos : Pos} {a d C : Addr} {c : Str} {oe : Obj}
end
end DN
namespace Lib
open PySem PySem.Spec PyProof.Rows L2 DN
noncomputable def least_first : List PV → M PV := dFn 1 4
  (sSeq (sAsg (dVar 0) (tTupP 3 (tCons (tName 1) (tCons (tName 2) (tCons (tName 3) tNil)))))
  (sRet (dIf (bVal (d2 pLt (dVar 1) (dVar 2))) (dVar 0) (dAl mTup (dAc (dVar 2) (dAc (dVar 1) (dAc (dAl turned_lets (dAc (dVar 3) dA0)) dA0)))))))
noncomputable def Strikes____init__ : List PV → M PV := dFnK 3 10
  (sSeq (sAsg (dVar 1) (tTupP 2 (tCons (tFld [("Strikes" : Str)] ("rooms" : Str) (dVar 0)) (tCons (tName 3) tNil))))
  (sSeq (sFldS [("Strikes" : Str)] ("told" : Str) (dVar 0) (dCompL (iSeq (d2 pAdd (dVar 3) (dVar 2))) (tName 5) bYes (dAl least_first (dAc (dVar 5) dA0)) [5] mLst))
  (sSeq (sFldS [("Strikes" : Str)] ("rows" : Str) (dVar 0) (dDc (.dT []) (iSeq (dFld [("Strikes" : Str)] ("told" : Str) (dVar 0))) (tTupP 3 (tCons (tName 6) (tCons (tName 7) (tCons (tName 9) tNil)))) bYes (dcP (dAl mTup (dAc (dVar 6) (dAc (dVar 7) dA0))) dNewK) [6, 7, 9]))
  (sSeq (sFor (iEn (dFld [("Strikes" : Str)] ("told" : Str) (dVar 0))) (tTupP 2 (tCons (tName 4) (tCons (tTupP 3 (tCons (tName 6) (tCons (tName 7) (tCons (tName 8) tNil)))) tNil))) (sAsg (dVar 8) (tSub (d2 pIx (dFld [("Strikes" : Str)] ("rows" : Str) (dVar 0)) (dAl mTup (dAc (dVar 6) (dAc (dVar 7) dA0)))) (dVar 4))) [4, 6, 7, 8])
  (sFldS [("Strikes" : Str)] ("world" : Str) (dVar 0) (dAl world_of (dAc (dAl mTup (dAc (dFld [("Strikes" : Str)] ("rooms" : Str) (dVar 0)) (dAc (d2 pAdd (dVar 3) (dVar 2)) dA0))) dA0)))))))
noncomputable def Strikes__lets_without : List PV → M PV := dFnK 2 8
  (sSeq (sAsg (d2 pIx (dFld [("Strikes" : Str)] ("told" : Str) (dVar 0)) (dVar 1)) (tTupP 3 (tCons (tName 3) (tCons (tName 4) (tCons (tName 5) tNil)))))
  (sSeq (sAsg (dAl all_standings (dAc (dFld [("Strikes" : Str)] ("rooms" : Str) (dVar 0)) (dAc (dVar 3) (dAc (dVar 4) dA0)))) (tName 2))
  (sSeq (sItems [("Strikes" : Str)] ("rows" : Str) 0 3 4 (tTupP 2 (tCons (tName 6) (tCons (tName 7) tNil))) (sIf (bVal (d2 pNe (dVar 6) (dVar 1))) (sAsg (dAl common_lets (dAc (dVar 2) (dAc (dVar 7) dA0))) (tName 2)) sNext) [6, 7])
  (sRet (dVar 2)))))
noncomputable def Strikes__strike : List PV → M PV := dFnK 2 5
  (sSeq (sAsg (d2 pIx (dFld [("Strikes" : Str)] ("told" : Str) (dVar 0)) (dVar 1)) (tTupP 3 (tCons (tName 2) (tCons (tName 3) (tCons (tName 4) tNil)))))
  (sSeq (sFldS [("Strikes" : Str)] ("world" : Str) (dVar 0) (dAl world_changed (dAc (dFld [("Strikes" : Str)] ("world" : Str) (dVar 0)) (dAc (dVar 2) (dAc (dVar 3) (dAc (dMe ("Strikes" : Str) ("lets_without" : Str) Strikes__lets_without (dVar 0) (dAc (dVar 1) dA0)) dA0))))))
  (sDel (d2 pIx (dFld [("Strikes" : Str)] ("rows" : Str) (dVar 0)) (dAl mTup (dAc (dVar 2) (dAc (dVar 3) dA0)))) (dVar 1))))
noncomputable def Strikes__is_implied : List PV → M PV := dFnK 2 7
  (sSeq (sAsg (d2 pIx (dFld [("Strikes" : Str)] ("told" : Str) (dVar 0)) (dVar 1)) (tTupP 3 (tCons (tName 3) (tCons (tName 4) (tCons (tName 5) tNil)))))
  (sSeq (sAsg (dAl qTup (dAc (dCompL (iSeq (dMe ("Strikes" : Str) ("lets_without" : Str) Strikes__lets_without (dVar 0) (dAc (dVar 1) dA0))) (tName 6) (bVal (d2 pNotIn (dVar 6) (dVar 5))) (dVar 6) [6] mLst) dA0)) (tName 2))
  (sRet (d2 pIs (dAl form_in (dAc (dAl world_changed (dAc (dFld [("Strikes" : Str)] ("world" : Str) (dVar 0)) (dAc (dVar 3) (dAc (dVar 4) (dAc (dVar 2) dA0))))) dA0)) (dC .non)))))
noncomputable def lean : List PV → M PV := dFn 1 6
  (sSeq (sAsg (dAl made_book (dAc (dVar 0) dA0)) (tName 0))
  (sSeq (sAsg (dAl (dMk ("Strikes" : Str) Strikes____init__) (dAc (dVar 0) (dAc (dAl mTup dA0) dA0))) (tName 1))
  (sSeq (sAsg (dAl mLstR dA0) (tName 2))
  (sSeq (sFor (iRg1 (dAl qLen (dAc (d2 pIx (dVar 0) (dC (.int 1))) dA0))) (tName 3) (sIf (bTruth (dMe ("Strikes" : Str) ("is_implied" : Str) Strikes__is_implied (dVar 1) (dAc (dVar 3) dA0))) (sExpr (dMe ("Strikes" : Str) ("strike" : Str) Strikes__strike (dVar 1) (dAc (dVar 3) dA0))) (sExpr (dM isL mAppend (dVar 2) (dAc (dVar 3) dA0)))) [3])
  (sSeq (sAsg (dVar 0) (tTupP 2 (tCons (tName 4) (tCons (tName 5) tNil))))
  (sRet (dAl mTup (dAc (dVar 4) (dAc (dAl qTup (dAc (dCompL (iSeq (dVar 2)) (tName 3) bYes (d2 pIx (dVar 5) (dVar 3)) [3] mLst) dA0)) dA0)))))))))
end Lib
set_option maxHeartbeats 2000000
namespace DN
open PySem PySem.Spec PyProof.Rows L2
section
variable {X : Cx} {T : TR} {E : XK} {G : DG}
variable {a b : Expr} {fa fb : DE} {pos : Pos}
end
end DN
set_option maxHeartbeats 4000000
namespace L2
open PySem PySem.Spec PyProof.Rows
end L2
namespace L2
open PySem PySem.Spec PyProof.Rows
section
variable {X : Cx}
end
end L2
namespace DN
open PySem PySem.Spec PyProof.Rows L2
section
variable {X : Cx} {T : TR} {E : XK} {G : DG} {ρ : List Addr} {H : Hp}
variable {a b : Expr} {fa fb : DE} {pos : Pos}
end
end DN
namespace L2
open PySem PySem.Spec PyProof.Rows
section
variable {X : Cx}
end
end L2
namespace DN
open PySem PySem.Spec PyProof.Rows L2
section
variable {X : Cx} {T : TR} {E : XK} {G : DG}
variable {a b : Expr} {fa fb : DE} {pos : Pos}
end
end DN
set_option maxHeartbeats 2000000
namespace DN
open PySem PySem.Spec PyProof.Rows L2
section
variable {X : Cx} {T : TR} {E : XK} {a b : Expr} {f g : DE} {p p2 pos pos2 : Pos}
end
section
variable {Xp : EP} {Q : PV → Store → Prop} {st : Store}
end
end DN
set_option maxHeartbeats 4000000
namespace L2
open PySem PySem.Spec PyProof.Rows
section
variable {X : Cx}
end
end L2
namespace DN
open PySem PySem.Spec PyProof.Rows L2
section
variable {X : Cx} {T : TR} {E : XK}
end
section
variable {X : EP} {Q : PV → Store → Prop} {σ : AE} {st : Store} {f : DE}
end
end DN
namespace DN
open PySem PySem.Spec PyProof.Rows L2
section
open SrtO SrtR Builtin
variable {prog : Program} {w : World} {A : Around} {E : Value → Shared → Prop} {s : Shared}
end
section
variable {X : Cx}
end
section
variable {X : Cx} {T : TR} {E : XK}
end
section
variable {X : EP} {Q : PV → Store → Prop} {σ : AE} {st : Store} {f : DE}
end
end DN
set_option maxHeartbeats 2000000
namespace DN
open PySem PySem.Spec PyProof.Rows L2
variable {Xp : EP} {Q : PV → Store → Prop} {st : Store} {p : PV}
end DN
set_option maxHeartbeats 4000000
namespace PySem.W
open Lean Elab Tactic Meta PySem PySem.Calls PyProof.Rows PyProof.V PySem.Spec
section
variable {prog : Program} {w : World} {K : Type} [DecidableEq K] {knd : HeapKind prog w K} {A : Around} {E : Value → Shared → Prop} {s : Shared}
end
end PySem.W
namespace DN
open PySem PySem.Spec PyProof.Rows L2
section
variable {X : Cx}
end
section
variable {X : Cx} {T : TR} {E : XK} {G : DG} {ρ : List Addr} {H : Hp} {σ : St} {aσ : AE} {st : Store} {a b : Expr} {fa fb : DE} {pos : Pos}
end
section
variable {Xp : EP} {Q : PV → Store → Prop} {st : Store}
end
end DN
set_option maxHeartbeats 2000000
namespace DN
open PySem PySem.Spec PyProof.Rows L2
open Classical in
noncomputable def srcLT (p q : PV) : M Src := fun st => match q with
  | .tup m => (match asL p st with
    | some l => if zok l = true then .ok (zipP l m, fun st => decide (asL p st = some l)) st else .fail
    | none => .fail)
  | _ => .fail
noncomputable def iZipLT (f : DA) : DI := fun σ st => (f σ st).bind fun ps st => match ps with
  | [p, q] => srcLT p q st
  | _ => .fail
section
variable {X : Cx} {T : TR} {E : XK} {G : DG} {ρ : List Addr} {H : Hp} {σ : St} {aσ : AE} {st : Store}
variable {tg a b e : Expr} {fa fb f : DE} {fs : DA} {pos p : Pos}
end
section
variable {Xp : EP} {QI : Src → Store → Prop} {σ : AE} {st : Store}
@[simp] theorem wp_iZipLT {f g : DE} : wpX Xp (iZipLT (dAc f (dAc g dA0)) σ st) QI = wpX Xp (f σ st) fun p st => wpX Xp (g σ st) fun q st => wpX Xp (srcLT p q st) QI := by
  simp [iZipLT]
end
end DN
namespace DN
open PySem PySem.Spec PyProof.Rows L2
section
variable {K : PySem.W.Frag} {x qual : Str} {params : Arguments} {body : List Stmt} {scope : Scope} {kw : List (Str × V)} {f : Addr} {fd : FuncData} {ps : List Str}
def BindsK (K : PySem.W.Frag) (fd : FuncData) (ps : List Str) : Prop := ∀ (s : Shared) (ws : List Value), K.In s.heap → ws.length = ps.length → BindsTo s fd ⟨[], ps.zip ws⟩ (ps.zip ws)
theorem bindsK_of (F : FunD K x qual params body scope [] kw f fd)
    (h : ∀ (kV doc pm : Value) (an : Option Addr) (cdv ct : Value) (ws : List Value), ws.length = ps.length → bindArgs (PySem.W.fnOf x qual params body scope .none kV doc pm an cdv ct) ⟨[], ps.zip ws⟩ = pure (ps.zip ws)) : BindsK K fd ps := by
  obtain ⟨oc, od, dV, kV, doc, pm, an, cdv, ct, osl, rfl, lk, hcd, hD, hK⟩ := F.ex
  rcases hD with ⟨_, rfl⟩ | ⟨e, _⟩
  · exact fun s ws _ hl => .of_eq (h kV doc pm an cdv ct ws hl)
  · exact absurd rfl e
end
section
variable {X : Cx} {T : TR} {E : XK} {x : Str} {f : Addr} {fd : FuncData} {ps : List Str} {k : Nat} {tb : TBL} {d : List PV → M PV} {e : Expr} {kws : List Keyword} {fs : DA} {g : DE} {p pos kpos : Pos} {sp : Sp} {t : TA} {nm : Option Str}
theorem pk_imp {t t' : TA} (h : PK X kws t) (i : ∀ σ H Q, t' σ H Q → t σ H Q) : PK X kws t' := ⟨fun pos pins s σ H Q I q => h.run pos pins s σ H Q I (i σ H Q q)⟩
def EK (X : Cx) (T : TR) (E : XK) (kws : List Keyword) (f : DA) : Prop := PK X kws (Ta (gOf X T) E f)
theorem ek_nil : EK X T E [] dA0 := pk_imp pk_nil fun σ H W q => by
  obtain ⟨ρ, aσ, st, hE, hS, h⟩ := q
  exact h.ret hS _ .nil
theorem ek_cons (ha : EV X T E e g) (hr : EK X T E kws fs) : EK X T E (⟨nm, e, kpos⟩ :: kws) (dAc g fs) := pk_imp (pk_cons ha hr) fun σ H W q => by
  obtain ⟨ρ, aσ, st, hE, hS, h⟩ := q
  exact tv_bind hE hS h fun ρ1 H1 x v st1 _ s1 e1 rx h => ta_bind e1 s1 h fun ρ2 H2 xs vs st2 x2 s2 e2 rs h => h.ret s2 _ (.cons (rx.ext x2) rs)
theorem pe_callKW (F : FnOkG X.prog X.w X.K X.mg X.base k f fd ps sp) (hr : RoomG k X.A) (hg : Gl X x) (hm : X.mg x = some (.ref f)) (hk : PySem.W.keepIn X.K (.ref f) = true) (hb : BindsK X.K fd ps) (hx : Passes (L2N.CX X.prog X.w) X E)
    (hkw : PK X kws t) (hall : (backToKw pos (keywordEach kws X.env)).all (·.1.isSome) = true := by rfl) (hks : (backToKw pos (keywordEach kws X.env)).filterMap (·.1) = ps := by rfl) (hdb : (x == ("__debug__" : Str)) = false := by decide)
    (hpl : ((backTo pos (starEach [] X.env)).any (·.1) || (backToKw pos (keywordEach kws X.env)).any (·.1.isNone)) = false := by rfl) :
    PE X (.Call (.Name x p) [] kws pos) (tCallG sp E t) := by
  constructor
  intro pins s σ H Q I q
  refine wpAny_Call_Name_kw (ld_glob I hg hm ?_ hdb)
  refine PySem.W.callWith_KW0 (h₀ := X.base) I.ok.mod.kin hk hall (thn (hkw.run pos pins s σ H _ I q) fun ws s1 ⟨zs, H1, I1, r, z⟩ => ⟨I1.kIn, ?_⟩) hpl
  rw [hks]
  have n : ws.length = ps.length := by rw [← r.length]; exact F.len _ _ _ _ z
  refine wpAny_call (codeAny_mono (F.run X.A X.stack s1 H1 ⟨[], ps.zip ws⟩ ws zs Q E hr I1.env0 (hb s1 ws I1.kIn n) r z) fun r' s' hq => ?_)
  cases r' with
  | error e => exact hx pins σ H1 s1 e s' I1 hq
  | ok fl =>
    cases fl with
    | ret u => exact I1.after hq
    | next => exact False.elim hq
    | brk => exact False.elim hq
    | cont => exact False.elim hq
def CalK (P : Program) (w : World) (K : PySem.W.Frag) (mg : Str → Option Value) (base : Heap) (tb : TBL) (k : Nat) (x : Str) (ps : List Str) (d : List PV → M PV) : Prop :=
  ∃ f fd, FnD P w K mg base tb k f fd ps d ∧ mg x = some (.ref f) ∧ PySem.W.keepIn K (.ref f) = true ∧ BindsK K fd ps
theorem ev_calK (C : CalK X.prog X.w X.K X.mg X.base tb k x ps d) (hr : RoomG k X.A) (hg : Gl X x) (hT : Tok tb T) (hx : Lets X E) (ha : EK X T E kws fs)
    (hall : (backToKw pos (keywordEach kws X.env)).all (·.1.isSome) = true := by rfl) (hks : (backToKw pos (keywordEach kws X.env)).filterMap (·.1) = ps := by rfl) (hdb : (x == ("__debug__" : Str)) = false := by decide)
    (hpl : ((backTo pos (starEach [] X.env)).any (·.1) || (backToKw pos (keywordEach kws X.env)).any (·.1.isNone)) = false := by rfl) :
    EV X T E (.Call (.Name x p) [] kws pos) (dAl d fs) := by
  obtain ⟨f, fd, F, hm, hk, hb⟩ := C
  refine pe_imp (pe_callKW F.ok hr hg hm hk hb hx ha hall hks hdb hpl) fun σ H Q q => ?_
  obtain ⟨ρ, aσ, st, hE, hS, h⟩ := q
  refine ta_bind hE hS h fun ρ1 H1 xs vs st1 _ s1 _ r h => ?_
  exact ⟨T, ρ1, xs, st1, hT, s1, r, F.ar xs st1 fun e => by rw [e] at h; exact h, h⟩
end
end DN
namespace DN
open PySem PySem.Spec PyProof.Rows L2
section
variable {K : PySem.W.Frag} {x qual : Str} {params : Arguments} {body : List Stmt} {scope : Scope} {kw : List (Str × V)} {f : Addr} {fd : FuncData} {ps : List Str} {m : Nat}
end
def dApM (m : Nat) (f g : DA) : DA := fun σ st => (f σ st).bind fun ps st => if ps.length = m then (g σ st).bind fun qs st => .ok (ps ++ qs) st else .fail
section
variable {X : Cx} {T : TR} {E : XK} {x : Str} {f : Addr} {fd : FuncData} {ps : List Str} {k m : Nat} {tb : TBL} {d : List PV → M PV} {e : Expr} {es : List Expr} {kws : List Keyword} {fs gs : DA} {g : DE} {p pos kpos : Pos} {sp : Sp} {t tk : TA} {nm : Option Str}
end
end DN
set_option maxHeartbeats 4000000
namespace DN
open PySem PySem.Spec PySem.Calls PyProof.Rows L2 NdefX
open PySem.W (copyHeap copyHeap_old copyHeap_at sortingHeap sortingHeap_old KeepsBut EachIs)
section
variable {X : Cx} {T : TR} {E : XK} {tb : List (Addr × Str)} {tabs : List (Addr × Addr)} {c P : Addr} {k j : Nat} {x : Str} {N ps fr : List Str} {js : List Nat} {scope : Scope} {params : Arguments} {body : Expr} {fb : DE}
end
section
variable {Xp : DN.EP}
end
end DN
namespace DN
open PySem PySem.Spec PyProof.Rows L2
def isD (p : PV) (st : Store) : Bool := match p with
  | .dK _ _ => true
  | .dT _ _ => true
  | .ref n => isDc n st
  | _ => false
def dGet2 (f g h : DE) : DE := fun σ st => (f σ st).bind fun x st => if isD x st = true then (g σ st).bind fun y st => (h σ st).bind fun z st => match dGet x y st with
  | some o => .ok (o.getD z) st
  | none => .fail
  else .fail
section
variable {X : Cx} {T : TR} {E : XK} {G : DG} {ρ : List Addr} {H : Hp} {st : Store}
end
section
variable {X : EP} {Q : PV → Store → Prop} {σ : AE} {st : Store} {f g h : DE} {x y z : PV}
@[simp] theorem wp_get2 : wpX X (dGet2 f g h σ st) Q = wpX X (f σ st) fun x st => isD x st = true ∧ wpX X (g σ st) fun y st => wpX X (h σ st) fun z st => ∃ o, dGet x y st = some o ∧ Q (o.getD z) st := by
  unfold dGet2
  rw [wp_bind]
  congr 1
  funext x st
  by_cases c : isD x st = true
  · rw [if_pos c, wp_bind]
    simp only [c, true_and]
    congr 1
    funext y st
    rw [wp_bind]
    congr 1
    funext z st
    cases e : dGet x y st with
    | none => simp [wpX]
    | some o => simp
  · rw [if_neg c]
    simp [c, wpX]
end
end DN
namespace PySem
section
variable {prog : Program} {w : World} {A : Around} {E : Value → Shared → Prop} {s : Shared}
end
end PySem
namespace L2
open PySem PySem.Spec PyProof.Rows
structure TurnY (P : Program) (w : World) (K : PySem.W.Frag) (tg : Expr) (J : It) (fp : List Addr) (it : Addr) (tn : Nat → Heap → Prop) : Prop where
  mem : it ∈ fp
  obj : ∀ i h, tn i h → ∀ b ∈ fp, ∃ o, h.get? b = some o ∧ ∀ v, o.data ≠ .cell v
  keep : ∀ i h h', tn i h → (∀ b ∈ fp, ∀ o, h.get? b = some o → h'.get? b = some o) → tn i h'
  item : ∀ (X : Cx), X.prog = P → X.w = w → X.K = K → ∀ (i : Nat) (pins : List (Addr × Obj)) (s : Shared) (σ : St) (H : Hp) (E : Value → Shared → Prop), Inv X pins σ H s → (∀ b ∈ fp, FpOk X pins H b) → tn i s.heap → J.go i H →
    wpAny (model P w) X.A (pyNext (.ref it)) (fun r s1 => ∃ u, r = some u ∧
      wpAny (model P w) X.A (letOwnedTupleGo tg (.ref it) u) (fun _ s2 => ∃ x H', Inv X pins σ H' s2 ∧ RelV x u ∧ J.yld i H x H' ∧ tn (i + 1) s2.heap ∧ ∀ b ∈ fp, H' b = none) E s1) E s
  done : ∀ (X : Cx), X.prog = P → X.w = w → X.K = K → ∀ (i : Nat) (pins : List (Addr × Obj)) (s : Shared) (σ : St) (H : Hp) (E : Value → Shared → Prop) (x1 : Addr), HotX.HotAt X.A x1 s.heap → Inv X pins σ H s → (∀ b ∈ fp, FpOk X pins H b) → tn i s.heap → J.stop i H →
    wpAny (model P w) X.A (pyNext (.ref it)) (fun r s1 => r = none ∧ Inv X pins σ H s1) E s
  self : ∀ (A : Around) (i : Nat) (s : Shared) (Q : Value → Shared → Prop) (E : Value → Shared → Prop), tn i s.heap → Q (.ref it) s → wpAny (model P w) A (pyIter (.ref it)) Q E s
def PIEY (X : Cx) (pins : List (Addr × Obj)) (σ : St) (tg : Expr) (R : It → Hp → Prop) (itv : Value) (s2 : Shared) : Prop :=
  ∃ (it : Addr) (fp : List Addr) (tn : Nat → Heap → Prop) (J : It) (H' : Hp), itv = .ref it ∧ Inv X pins σ H' s2 ∧ TurnY X.prog X.w X.K tg J fp it tn ∧ tn 0 s2.heap ∧ (∀ b ∈ fp, FpOk X pins H' b) ∧ R J H'
structure PIY (X : Cx) (tg iter : Expr) (wi : TI) : Prop where
  run : ∀ (pins : List (Addr × Obj)) (s : Shared) (σ : St) (H : Hp) (R : It → Hp → Prop), Inv X pins σ H s → wi σ H R →
    wpAny (model X.prog X.w) X.A (eval iter X.env) (fun v s1 => wpAny (model X.prog X.w) X.A (pyIter v) (PIEY X pins σ tg R) X.xe s1) X.xe s
section
variable {X : Cx}
end
end L2
namespace DN
open PySem PySem.Spec PyProof.Rows L2
noncomputable def srcL (p : PV) : M Src := fun st => match p with
  | .lst l => .ok (l, fun _ => true) st
  | _ => .fail
noncomputable def iSeqL (f : DE) : DI := fun σ st => (f σ st).bind fun p st => srcL p st
section
variable {X : Cx} {T : TR} {E : XK} {tg a elt iter : Expr} {fa e : DE} {src : DI} {t : DT} {c : DB} {ifs : List Expr} {scope : Scope} {own : List (Str × Nat)} {pos : Pos}
end
end DN
namespace DN
open PySem PySem.Spec PyProof.Rows L2
variable {Xp : EP} {σ : AE} {st : Store} {f : DE}
@[simp] theorem wp_iSeqL {QI : Src → Store → Prop} : wpX Xp (iSeqL f σ st) QI = wpX Xp (f σ st) fun p st => wpX Xp (srcL p st) QI := by
  unfold iSeqL
  rw [wp_bind]
@[simp] theorem wp_srcLL {l : List PV} {QI : Src → Store → Prop} : wpX Xp (srcL (.lst l) st) QI = QI (l, fun _ => true) st := by
  simp only [srcL, wp_ok]
end DN
namespace DN
open PySem PySem.Spec PyProof.Rows L2
def mJoin (x : PV) (xs : List PV) : M PV := fun st => match x, xs with
  | .str a, [y] => (match (asL y st).bind strs? with
    | some ys => if (ys.map (·.length)).sum + ys.length * a.length ≤ SZ then .ok (.str (Txt.join a ys)) st else .fail
    | none => .fail)
  | _, _ => .fail
def mRfind (x : PV) (xs : List PV) : M PV := fun st => match x, xs with
  | .str a, [.str b] => .ok (.int (Txt.rfind a b)) st
  | _, _ => .fail
def dFmt (f : DE) : DE := fun σ st => (f σ st).bind fun x st => match x with
  | .str y => if y.length ≤ SZ then .ok (.str y) st else .fail
  | .int i => if i.natAbs.log2 < 1920 then .ok (.str (toString i)) st else .fail
  | _ => .fail
def jF : List DE → Str → DE
  | [], acc => fun _ st => .ok (.str acc) st
  | f :: fs, acc => fun σ st => (f σ st).bind fun x st => match x with
    | .str y => if (acc ++ y).length ≤ SZ then jF fs (acc ++ y) σ st else .fail
    | _ => .fail
def dFs (fs : List DE) : DE := jF fs Str.empty
section
variable {X : Cx} {T : TR} {E : XK} {G : DG} {ρ : List Addr} {H : Hp} {σ : St} {aσ : AE} {st : Store}
theorem ad_join : AdqM G E (fun x xs H Q => ∃ a p, ∃ ys : List Str, x = .str a ∧ xs = [.ref p] ∧ (SqL G.K H p (ys.map V.str) ∨ SqT G.K H p (ys.map V.str)) ∧ (ys.map (·.length)).sum + ys.length * a.length ≤ 16777216 ∧ Q (.str (Txt.join a ys)) H) mJoin := fun ρ H st x xs v vs Q hS rx rs h => by
  unfold mJoin at h
  split at h
  · rename_i a y
    split at h
    · rename_i ys e
      split at h
      · rename_i hz
        obtain ⟨l, e1, e2⟩ := Option.bind_eq_some_iff.mp e
        obtain ⟨w, rfl, ry⟩ := all1 rs
        obtain ⟨p, us, rfl, rd, ra⟩ := asL_rl hS ry e1
        cases rx
        have := strs_rl e2 ra
        subst this
        exact ⟨a, p, ys, rfl, rfl, .inl (.inl rd), hz, post_val h hS (.str _)⟩
      · exact h.elim
    · exact h.elim
  · exact h.elim
theorem ad_rfind : AdqM G E (fun x xs H Q => ∃ a b, x = .str a ∧ xs = [.str b] ∧ Q (.int (Txt.rfind a b)) H) mRfind := fun ρ H st x xs v vs Q hS rx rs h => by
  unfold mRfind at h
  split at h
  · obtain ⟨w, rfl, ry⟩ := all1 rs
    cases rx; cases ry
    exact ⟨_, _, rfl, rfl, post_val h hS (.int _)⟩
  · exact h.elim
variable {o e a : Expr} {f fo fa : DE} {apos cpos pos : Pos}
theorem ev_join (ho : EV X T E o fo) (ha : EV X T E a fa) (hbase : attributeBase o "join" X.env (eval o X.env) = eval o X.env := by rfl)
    (hfew : ((backTo cpos (starEach [a] X.env)).all (fun x => !x.1) && (backToKw cpos (keywordEach [] X.env)).all (fun x => x.1.isSome)
      && decide ([a].length + ([] : List Keyword).length + (if ([] : List Keyword).isEmpty then 0 else 1) < 30)) = true := by rfl) (hline : (apos.endLine == cpos.line) = true := by rfl) (hs : starEach [a] X.env = (false, eval a X.env) :: starEach [] X.env := by rfl) (hplain : (backTo cpos (starEach [] X.env)).any (·.1) = false := by rfl) :
    EV X T E (.Call (.Attribute o "join" apos) [a] [] cpos) (dM isS mJoin fo (dAc fa dA0)) :=
  ev_m PySem.F.plainAttrs_str PySem.F.slot_str_join PySem.F.type_str_join mt_join (fun _ _ _ _ _ => isS_ty) ad_join ho (ea_cons ha ea_nil hs) hbase hfew hline hs hplain
theorem ev_rfind (ho : EV X T E o fo) (ha : EV X T E a fa) (hbase : attributeBase o "rfind" X.env (eval o X.env) = eval o X.env := by rfl)
    (hfew : ((backTo cpos (starEach [a] X.env)).all (fun x => !x.1) && (backToKw cpos (keywordEach [] X.env)).all (fun x => x.1.isSome)
      && decide ([a].length + ([] : List Keyword).length + (if ([] : List Keyword).isEmpty then 0 else 1) < 30)) = true := by rfl) (hline : (apos.endLine == cpos.line) = true := by rfl) (hs : starEach [a] X.env = (false, eval a X.env) :: starEach [] X.env := by rfl) (hplain : (backTo cpos (starEach [] X.env)).any (·.1) = false := by rfl) :
    EV X T E (.Call (.Attribute o "rfind" apos) [a] [] cpos) (dM isS mRfind fo (dAc fa dA0)) :=
  ev_m PySem.F.plainAttrs_str PySem.F.slot_str_rfind PySem.F.type_str_rfind mt_rfind (fun _ _ _ _ _ => isS_ty) ad_rfind ho (ea_cons ha ea_nil hs) hbase hfew hline hs hplain
theorem ev_fmt (h : EV X T E a fa) : EV X T E (.FormattedValue a (-1) none pos) (dFmt fa) := pe_imp (pe_fmt h) fun σ H Q q => by
  obtain ⟨ρ, aσ, st, hE, hS, h⟩ := q
  refine tv_bind hE hS h fun ρ1 H1 x v st1 _ s1 e1 rx h => ?_
  split at h
  · split at h
    · rename_i y hz
      cases rx
      exact .inl ⟨y, rfl, by rw [SZ_eq]; exact hz, post_val h s1 (.str _)⟩
    · exact h.elim
  · split at h
    · rename_i i hz
      cases rx
      exact .inr ⟨i, rfl, hz, post_val h s1 (.str _)⟩
    · exact h.elim
  · exact h.elim
inductive EJ (X : Cx) (T : TR) (E : XK) : List Expr → List DE → Prop where
  | nil : EJ X T E [] []
  | cons {e : Expr} {f : DE} {es : List Expr} {fs : List DE} (h : EV X T E e f) (r : EJ X T E es fs) : EJ X T E (e :: es) (f :: fs)
theorem EJ.pj {es : List Expr} {fs : List DE} (h : EJ X T E es fs) : PJ X es (fs.map fun f => Tv (gOf X T) E f) := by
  induction h with
  | nil => exact .nil
  | cons h r ih => exact .cons h ih
theorem tjs_of {Q : VK} : ∀ (fs : List DE) (acc : Str) (ρ : List Addr) (H : Hp) (st : Store), RlE G ρ H aσ σ → RlS G ρ H st → Pst G E ρ H (KV G Q) (jF fs acc aσ st) → tJs (fs.map fun f => Tv G E f) acc σ H (fun out H1 => Q (.str out) H1)
  | [], acc, ρ, H, st, hE, hS, h => by
    exact h.ret hS (.str acc) (.str acc)
  | f :: fs, acc, ρ, H, st, hE, hS, h => by
    refine tv_bind hE hS h fun ρ1 H1 x v st1 _ s1 e1 rx h => ?_
    split at h
    · split at h
      · rename_i y hz
        cases rx
        exact ⟨y, rfl, by rw [SZ_eq]; exact hz, tjs_of fs _ ρ1 H1 st1 e1 s1 h⟩
      · exact h.elim
    · exact h.elim
theorem ev_fs {e1 e2 : Expr} {es : List Expr} {fs : List DE} (h : EJ X T E (e1 :: e2 :: es) fs) : EV X T E (.JoinedStr (e1 :: e2 :: es) pos) (dFs fs) := pe_imp (pe_joined h.pj) fun σ H Q q => by
  obtain ⟨ρ, aσ, st, hE, hS, h⟩ := q
  exact tjs_of fs Str.empty ρ H st hE hS h
end
section
variable {Xp : EP} {Q : PV → Store → Prop} {σ : AE} {st : Store} {f : DE} {fs : List DE} {a b y acc : Str}
theorem wp_join {l : List Str} {p : PV} (hp : asL p st = some (l.map .str)) (hz : (l.map (·.length)).sum + l.length * a.length ≤ SZ) (q : Q (.str (Txt.join a l)) st) : wpX Xp (mJoin (.str a) [p] st) Q := by
  have : mJoin (.str a) [p] st = .ok (.str (Txt.join a l)) st := by
    unfold mJoin
    simp only [hp, Option.bind_some, strs_map, if_pos hz]
  rw [this]
  simpa using q
@[simp] theorem wp_addS : wpX Xp (pAdd (.str a) (.str b) st) Q = (a.length + b.length ≤ SZ ∧ Q (.str (a ++ b)) st) := by
  by_cases c : a.length + b.length ≤ SZ
  · simp only [pAdd, if_pos c]
    simp [c]
  · simp only [pAdd, if_neg c]
    simp [c, wpX]
@[simp] theorem wp_slS {lo hi : Option Int} : wpX Xp (pSl (.str a) lo hi st) Q = (a.length ≤ SZ ∧ Q (.str (cutS a lo hi)) st) := by
  by_cases c : a.length ≤ SZ
  · simp only [pSl, if_pos c]
    simp [c]
  · simp only [pSl, if_neg c]
    simp [c, wpX]
@[simp] theorem wp_lenTx : wpX Xp (qLen [.str a] st) Q = (a.length ≤ SZ ∧ Q (.int a.length) st) := by
  by_cases c : a.length ≤ SZ
  · simp only [qLen, if_pos c]
    simp [c]
  · simp only [qLen, if_neg c]
    simp [c, wpX]
@[simp] theorem wp_rfind : wpX Xp (mRfind (.str a) [.str b] st) Q = Q (.int (Txt.rfind a b)) st := by simp [mRfind]
@[simp] theorem isS_str : isS (.str a) st = true := rfl
@[simp] theorem wp_fmt : wpX Xp (dFmt f σ st) Q = wpX Xp (f σ st) fun x st => (∃ y, x = .str y ∧ y.length ≤ SZ ∧ Q (.str y) st) ∨ ∃ i : Int, x = .int i ∧ i.natAbs.log2 < 1920 ∧ Q (.str (toString i)) st := by
  unfold dFmt
  rw [wp_bind]
  congr 1
  funext x st
  cases x with
  | str y =>
    by_cases c : y.length ≤ SZ
    · simp [c]
    · simp [c, wpX]
  | int i =>
    by_cases c : i.natAbs.log2 < 1920
    · simp [c]
    · simp [c, wpX]
  | _ => simp [wpX]
@[simp] theorem wp_jF0 : wpX Xp (jF [] acc σ st) Q = Q (.str acc) st := by simp [jF]
@[simp] theorem wp_jF1 : wpX Xp (jF (f :: fs) acc σ st) Q = wpX Xp (f σ st) fun x st => ∃ y, x = .str y ∧ (acc ++ y).length ≤ SZ ∧ wpX Xp (jF fs (acc ++ y) σ st) Q := by
  show wpX Xp ((f σ st).bind _) Q = _
  rw [wp_bind]
  congr 1
  funext x st
  cases x with
  | str y =>
    by_cases c : (acc ++ y).length ≤ SZ
    · simp only [if_pos c]
      simp [c]
    · simp only [if_neg c]
      simp [c, wpX]
  | _ => simp [wpX]
@[simp] theorem wp_dFs : wpX Xp (dFs fs σ st) Q = wpX Xp (jF fs Str.empty σ st) Q := rfl
end
end DN
namespace Lib
open PySem PySem.Spec PyProof.Rows L2 DN
noncomputable def is_hook : List PV → M PV := dFn 3 3
  (sRet (dOr (d2 pIs (dVar 2) (dC .non)) (dAnd (dAl is_thing (dAc (dVar 0) (dAc (dVar 2) dA0))) (d2 pIs (d2 pIx (dVar 1) (dVar 2)) (dC .non)))))
noncomputable def made_yard : List PV → M PV := dFn 2 3
  (sSeq (sAsg (dAl made_rooms (dAc (dVar 0) dA0)) (tName 0))
  (sSeq (sIf (bOr (bNot (bTruth (dAl qIsI (dAc (dVar 1) (dAc (dC (.ty "tuple")) dA0))))) (bVal (d2 pNe (dAl qLen (dAc (dVar 1) dA0)) (dC (.int 3))))) (sRaise ("BadYard" : Str) (d1 pNeg (dC (.int 1)))) sNext)
  (sSeq (sAsg (dAl made_forest (dAc (dVar 0) (dAc (d2 pIx (dVar 1) (dC (.int 0))) dA0))) (tName 2))
  (sSeq (sIf (bNot (bTruth (dAl is_hook (dAc (dVar 0) (dAc (dVar 2) (dAc (d2 pIx (dVar 1) (dC (.int 1))) dA0)))))) (sRaise ("BadYard" : Str) (dC (.int 1))) sNext)
  (sSeq (sIf (bNot (bTruth (dAl qIsI (dAc (d2 pIx (dVar 1) (dC (.int 2))) (dAc (dC (.ty "str")) dA0))))) (sRaise ("BadYard" : Str) (dC (.int 2))) sNext)
  (sRet (dAl mTup (dAc (dVar 2) (dAc (d2 pIx (dVar 1) (dC (.int 1))) (dAc (d2 pIx (dVar 1) (dC (.int 2))) dA0))))))))))
noncomputable def lowered : List PV → M PV := dFn 3 3
  (sSeq (sIf (bVal (d2 pIs (dVar 1) (dC .non))) (sRaise ("NoHook" : Str) (dC (.int 0))) sNext)
  (sSeq (sIf (bAnd (bVal (d2 pIsNot (dVar 2) (dC .non))) (bOr (bVal (d2 pEq (d2 pIx (dVar 2) (dC (.int 0))) (dVar 1))) (bVal (d2 pIn (dVar 1) (dAl around (dAc (dVar 0) (dAc (d2 pIx (dVar 2) (dC (.int 0))) dA0))))))) (sRaise ("Within" : Str) (d2 pIx (dVar 2) (dC (.int 0)))) sNext)
  (sRet (dAl _law_hung (dAc (dVar 0) (dAc (dVar 1) (dAc (dVar 2) dA0)))))))
noncomputable def stepped : List PV → M PV := dFn 2 5
  (sSeq (sAsg (dVar 0) (tTupP 3 (tCons (tName 2) (tCons (tName 3) (tCons (tName 4) tNil)))))
  (sSeq (sIf (bVal (d2 pEq (d2 pIx (dVar 1) (dC (.int 0))) (dC (.str ("lift" : Str))))) (sSeq (sIf (bVal (d2 pIsNot (dVar 3) (dC .non))) (sRaise ("Hooked" : Str) (dVar 3)) sNext)
  (sRet (dAl mTup (dAc (dAl _law_hung (dAc (dVar 2) (dAc (d2 pIx (dVar 1) (dC (.int 1))) (dAc (dC .non) dA0)))) (dAc (d2 pIx (dVar 1) (dC (.int 1))) (dAc (dVar 4) dA0)))))) sNext)
  (sSeq (sIf (bVal (d2 pEq (d2 pIx (dVar 1) (dC (.int 0))) (dC (.str ("lower" : Str))))) (sRet (dAl mTup (dAc (dAl lowered (dAc (dVar 2) (dAc (dVar 3) (dAc (d2 pIx (dVar 1) (dC (.int 1))) dA0)))) (dAc (dC .non) (dAc (dVar 4) dA0))))) sNext)
  (sSeq (sIf (bVal (d2 pEq (d2 pIx (dVar 1) (dC (.int 0))) (dC (.str ("write" : Str))))) (sRet (dAl mTup (dAc (dVar 2) (dAc (dVar 3) (dAc (d2 pAdd (dVar 4) (d2 pIx (dVar 1) (dC (.int 1)))) dA0))))) sNext)
  (sRet (dAl mTup (dAc (dVar 2) (dAc (dVar 3) (dAc (dSl (dVar 4) oNone (oSome (d2 pAdd (dM isS mRfind (dVar 4) (dAc (dC (.str ("\n" : Str))) dA0)) (dC (.int 1))))) dA0)))))))))
noncomputable def is_code_row : List PV → M PV := dFn 2 4
  (sSeq (sIf (bOr (bNot (bTruth (dAl qIsI (dAc (dVar 1) (dAc (dC (.ty "tuple")) dA0))))) (bVal (d2 pEq (dVar 1) (dAl mTup (dAc (dC (.str ("trim" : Str))) dA0))))) (sRet (d2 pEq (dVar 1) (dAl mTup (dAc (dC (.str ("trim" : Str))) dA0)))) sNext)
  (sSeq (sIf (bVal (d2 pNe (dAl qLen (dAc (dVar 1) dA0)) (dC (.int 2)))) (sRet (dC (.bl false))) sNext)
  (sSeq (sAsg (dVar 1) (tTupP 2 (tCons (tName 2) (tCons (tName 3) tNil))))
  (sSeq (sIf (bVal (d2 pEq (dVar 2) (dC (.str ("lift" : Str))))) (sRet (dAl is_thing (dAc (dVar 0) (dAc (dVar 3) dA0)))) sNext)
  (sSeq (sIf (bVal (d2 pEq (dVar 2) (dC (.str ("lower" : Str))))) (sRet (dAl is_place (dAc (dVar 0) (dAc (d1 pNeg (dC (.int 1))) (dAc (dVar 3) dA0))))) sNext)
  (sRet (dAnd (d2 pEq (dVar 2) (dC (.str ("write" : Str)))) (dAnd (dAl qIsI (dAc (dVar 3) (dAc (dC (.ty "str")) dA0))) (d2 pNe (dVar 3) (dC (.str ("" : Str))))))))))))
noncomputable def all_stepped : List PV → M PV := dFn 2 3
  (sSeq (sFor (iSeq (dVar 1)) (tName 2) (sAsg (dAl stepped (dAc (dVar 0) (dAc (dVar 2) dA0))) (tName 0)) [2])
  (sRet (dVar 0)))
noncomputable def made_code : List PV → M PV := dFn 2 4
  (sSeq (sAsg (dAl made_rooms (dAc (dVar 0) dA0)) (tName 0))
  (sSeq (sIf (bNot (bTruth (dAl qIsI (dAc (dVar 1) (dAc (dC (.ty "tuple")) dA0))))) (sRaise ("BadCode" : Str) (d1 pNeg (dC (.int 1)))) sNext)
  (sSeq (sFor (iEn (dVar 1)) (tTupP 2 (tCons (tName 2) (tCons (tName 3) tNil))) (sIf (bNot (bTruth (dAl is_code_row (dAc (dVar 0) (dAc (dVar 3) dA0))))) (sRaise ("BadCode" : Str) (dVar 2)) sNext) [2, 3])
  (sRet (dVar 1)))))
noncomputable def run_code : List PV → M PV := dFn 3 3
  (sSeq (sAsg (dAl made_yard (dAc (dVar 0) (dAc (dVar 1) dA0))) (tName 1))
  (sRet (dAl all_stepped (dAc (dVar 1) (dAc (dAl made_code (dAc (dVar 0) (dAc (dVar 2) dA0))) dA0)))))
end Lib
namespace K86
open PySem PySem.Spec PyProof.Rows L2 DN
noncomputable def d__law_chain : List PV → M PV := dFn 2 7
  (sSeq (sPar 3 4 (dAc (dAl Lib._law_mixed (dAc (dVar 0) (dAc (dCompL (iRg1 (dAl qLen (dAc (dVar 1) dA0))) (tName 6) (bVal (d2 pGt (d2 pIx (dVar 1) (dVar 6)) (dC (.int 0)))) (dVar 6) [6] mLst) dA0))) (dAc (dCompL (iRg1 (dAl qLen (dAc (dVar 1) dA0))) (tName 6) bYes (dC .non) [6] mLstR) dA0)))
  (sSeq (sFor (iRg2 (dC (.int 1)) (dAl qLen (dAc (dVar 3) dA0))) (tName 2) (sAsg (dAl mTup (dAc (d2 pIx (dVar 3) (d2 pSub (dVar 2) (dC (.int 1)))) (dAc (dAl Lib._law_take (dAc (dVar 0) (dAc (d2 pIx (dVar 1) (d2 pIx (dVar 3) (d2 pSub (dVar 2) (dC (.int 1))))) dA0))) dA0))) (tSub (dVar 4) (d2 pIx (dVar 3) (dVar 2)))) [2])
  (sSeq (sIf (bVal (d2 pNe (dVar 3) (dAl mLst dA0))) (sSeq (sAsg (d2 pIx (dVar 3) (d2 pSub (dAl qLen (dAc (dVar 3) dA0)) (dC (.int 1)))) (tName 5))
  (sFor (iRg1 (dAl qLen (dAc (dVar 1) dA0))) (tName 6) (sIf (bAnd (bVal (d2 pEq (d2 pIx (dVar 1) (dVar 6)) (dC (.int 0)))) (bVal (d2 pEq (dAl Lib._law_take (dAc (dVar 0) (dAc (dC (.int 2)) dA0))) (dC (.int 0))))) (sAsg (dAl mTup (dAc (dVar 5) (dAc (dAl Lib._law_take (dAc (dVar 0) (dAc (d2 pIx (dVar 1) (dVar 5)) dA0))) dA0))) (tSub (dVar 4) (dVar 6))) sNext) [6])) sNext)
  (sRet (dAl qTup (dAc (dVar 4) dA0))))))
noncomputable def d__law_forest : List PV → M PV := dFn 2 2
  (sRet (dIf (bVal (d2 pEq (dAl Lib._law_take (dAc (dVar 0) (dAc (dC (.int 3)) dA0))) (dC (.int 0)))) (dAl d__law_chain (dAc (dVar 0) (dAc (dVar 1) dA0))) (dAl Lib._law_grown (dAc (dVar 0) (dAc (dVar 1) dA0)))))
noncomputable def d__law_heard (g : List PV → M PV) : List PV → M PV := dFn 1 2
  (sTry tbl 2 (sRet (dAl mTup (dAc (dC (.str ("told" : Str))) (dAc (dAsk g 0 dA0) dA0)))) [(("Refused" : Str), some 1, (sRet (dAl mTup (dAc (dC (.str ("refused" : Str))) (dAc (dWhat (dVar 1)) (dAc (dAl (qIsE tbl) (dAc (dVar 1) (dAc (dC (.con ("BadForest" : Str))) dA0))) (dAc (dAl (qIsE tbl) (dAc (dVar 1) (dAc (dC (.con ("BadNumber" : Str))) dA0))) dA0)))))))])
noncomputable def d_lay_row : List PV → M PV := dFn 2 7
  (sSeq (sAsg (dCompL (iEn (dVar 1)) (tTupP 2 (tCons (tName 4) (tCons (tName 5) tNil))) (bVal (d2 pNe (d2 pIx (dVar 0) (dVar 4)) (dVar 5))) (dVar 4) [4, 5] mLst) (tName 2))
  (sSeq (sAsg (dAl qSrtT (dAc (dCompL (iSeq (dVar 2)) (tName 4) bYes (dAl mTup (dAc (dAl qLen (dAc (dAl Lib.around (dAc (dVar 1) (dAc (dVar 4) dA0))) dA0)) (dAc (dVar 4) dA0))) [4] mLst) dA0)) (tName 3))
  (sRet (dAl qTup (dAc (dCompL (iSeq (dVar 3)) (tTupP 2 (tCons (tName 6) (tCons (tName 4) tNil))) bYes (dAl mTup (dAc (dVar 4) (dAc (d2 pIx (dVar 1) (dVar 4)) dA0))) [6, 4] mLst) dA0)))))
noncomputable def d_lay : List PV → M PV := dFn 3 3
  (sSeq (sAsg (dAl Lib.made_rooms (dAc (dVar 0) dA0)) (tName 0))
  (sSeq (sAsg (dAl Lib.made_forest (dAc (dVar 0) (dAc (dVar 1) dA0))) (tName 1))
  (sSeq (sAsg (dAl Lib.made_forest (dAc (dVar 0) (dAc (dVar 2) dA0))) (tName 2))
  (sRet (dAl d_lay_row (dAc (dVar 1) (dAc (dVar 2) dA0)))))))
noncomputable def d_want_number : List PV → M PV := dFn 1 1
  (sIf (bOr (bNot (bTruth (dAl Lib.is_whole (dAc (dVar 0) dA0)))) (bVal (d2 pLt (dVar 0) (dC (.int 1))))) (sRaise ("BadNumber" : Str) (dVar 0)) sNext)
noncomputable def d_hang_code : List PV → M PV := dFn 1 4
  (sSeq (sAsg (dAl mLstR dA0) (tName 1))
  (sSeq (sFor (iSeq (dVar 0)) (tTupP 2 (tCons (tName 2) (tCons (tName 3) tNil))) (sExpr (dM isL mExtend (dVar 1) (dAc (dAl mLst (dAc (dAl mTup (dAc (dC (.str ("lift" : Str))) (dAc (dVar 2) dA0))) (dAc (dAl mTup (dAc (dC (.str ("lower" : Str))) (dAc (dVar 3) dA0))) dA0))) dA0))) [2, 3])
  (sRet (dAl qTup (dAc (dVar 1) dA0)))))
noncomputable def d_shut_text : List PV → M PV := dFn 1 1
  (sRet (dFs [dFmt (dVar 0), (dC (.str (" shut\n" : Str)))]))
noncomputable def d_framed : List PV → M PV := dFn 3 3
  (sRet (d2 pAdd (d2 pAdd (dAl mTup (dAc (dAl mTup (dAc (dC (.str ("write" : Str))) (dAc (dVar 0) dA0))) dA0)) (dAl d_hang_code (dAc (dVar 1) dA0))) (dAl mTup (dAc (dAl mTup (dAc (dC (.str ("write" : Str))) (dAc (dAl d_shut_text (dAc (d2 pAdd (dVar 2) (dC (.int 1))) dA0)) dA0))) dA0))))
noncomputable def d_place_word : List PV → M PV := dFn 1 1
  (sSeq (sIf (bVal (d2 pIs (dVar 0) (dC .non))) (sRet (dC (.str ("-" : Str)))) sNext)
  (sRet (dFs [dFmt (d2 pIx (dVar 0) (dC (.int 0))), (dC (.str ("." : Str))), dFmt (d2 pIx (dVar 0) (dC (.int 1)))])))
noncomputable def d_forest_words : List PV → M PV := dFn 1 2
  (sRet (dM isS mJoin (dC (.str ("" : Str))) (dAc (dCompL (iSeq (dVar 0)) (tName 1) bYes (d2 pAdd (dC (.str (" " : Str))) (dAl d_place_word (dAc (dVar 1) dA0))) [1] mLst) dA0)))
noncomputable def d_lay_text : List PV → M PV := dFn 2 2
  (sRet (d2 pAdd (d2 pAdd (dFs [dFmt (dVar 0), (dC (.str (" lay" : Str)))]) (dAl d_forest_words (dAc (dVar 1) dA0))) (dC (.str ("\n" : Str)))))
noncomputable def d_lay_code : List PV → M PV := dFn 4 5
  (sSeq (sAsg (dAl d_lay (dAc (dVar 0) (dAc (dVar 1) (dAc (dVar 2) dA0)))) (tName 4))
  (sSeq (sExpr (dAl d_want_number (dAc (dVar 3) dA0)))
  (sSeq (sIf (bVal (d2 pEq (dVar 4) (dAl mTup dA0))) (sRet (dAl mTup dA0)) sNext)
  (sRet (dAl d_framed (dAc (dAl d_lay_text (dAc (dVar 3) (dAc (dVar 2) dA0))) (dAc (dVar 4) (dAc (dVar 3) dA0))))))))
noncomputable def d__law_refusals_right : List PV → M PV := dFn 4 13
  (sSeq (sAsg (dAl mTup (dAc (dAl qLen (dAc (dVar 1) dA0)) (dAc (dAl Lib._law_one (dAc (dVar 0) (dAc (dAl mLst (dAc (dC (.int 0)) (dAc (d1 pNeg (dC (.int 1))) (dAc (d1 pNeg (d2 pPow (dC (.int 10)) (dC (.int 20)))) dA0)))) dA0))) dA0))) (tTupP 2 (tCons (tName 4) (tCons (tName 5) tNil))))
  (sSeq (sIf (bVal (d2 pNe (dAl qRepr (dAc (dLam1 (fun g => (d__law_heard g)) (dLamF 0 4 4 (dAl d_lay_code (dAc (dVar 0) (dAc (dVar 1) (dAc (dVar 2) (dAc (dVar 3) dA0)))))) [1, 2, 3, 5]) dA0)) (dAl qRepr (dAc (dAl mTup (dAc (dC (.str ("refused" : Str))) (dAc (dVar 5) (dAc (dC (.bl false)) (dAc (dC (.bl true)) dA0))))) dA0)))) (sRet (dC (.bl false))) sNext)
  (sSeq (sIf (bVal (d2 pEq (dVar 4) (dC (.int 0)))) (sRet (dC (.bl true))) sNext)
  (sSeq (sPar 6 7 (dAc (dAl Lib._law_take (dAc (dVar 0) (dAc (dVar 4) dA0))) (dAc (dAl Lib._law_take (dAc (dVar 0) (dAc (dVar 4) dA0))) dA0)))
  (sSeq (sPar 8 9 (dAc (dAl Lib._law_hung (dAc (dVar 2) (dAc (dVar 6) (dAc (dAl mTup (dAc (dVar 4) (dAc (dC (.int 0)) dA0))) dA0)))) (dAc (dAl Lib._law_hung (dAc (dVar 3) (dAc (dVar 7) (dAc (dAl mTup (dAc (dVar 7) (dAc (dC (.int 0)) dA0))) dA0)))) dA0)))
  (sSeq (sFor (iSeq (dAl mLst (dAc (dAl mTup (dAc (dVar 8) (dAc (dVar 3) (dAc (dVar 6) dA0)))) (dAc (dAl mTup (dAc (dVar 2) (dAc (dVar 9) (dAc (dVar 7) dA0)))) (dAc (dAl mTup (dAc (dVar 8) (dAc (dVar 9) (dAc (dVar 6) dA0)))) (dAc (dAl mTup (dAc (dSl (dVar 2) (oSome (dC (.int 1))) oNone) (dAc (dVar 9) (dAc (d1 pNeg (dC (.int 1))) dA0)))) dA0)))))) (tTupP 3 (tCons (tName 10) (tCons (tName 11) (tCons (tName 12) tNil)))) (sSeq (sIf (bVal (d2 pNe (dAl qRepr (dAc (dLam1 (fun g => (d__law_heard g)) (dLamF 0 3 3 (dAl d_lay (dAc (dVar 0) (dAc (dVar 1) (dAc (dVar 2) dA0))))) [1, 10, 11]) dA0)) (dAl qRepr (dAc (dAl mTup (dAc (dC (.str ("refused" : Str))) (dAc (dVar 12) (dAc (dC (.bl true)) (dAc (dC (.bl false)) dA0))))) dA0)))) (sRet (dC (.bl false))) sNext)
  (sIf (bVal (d2 pNe (dAl qRepr (dAc (dLam1 (fun g => (d__law_heard g)) (dLamF 0 4 4 (dAl d_lay_code (dAc (dVar 0) (dAc (dVar 1) (dAc (dVar 2) (dAc (dVar 3) dA0)))))) [1, 10, 11, 5]) dA0)) (dAl qRepr (dAc (dAl mTup (dAc (dC (.str ("refused" : Str))) (dAc (dVar 12) (dAc (dC (.bl true)) (dAc (dC (.bl false)) dA0))))) dA0)))) (sRet (dC (.bl false))) sNext)) [10, 11, 12])
  (sRet (dC (.bl true)))))))))
noncomputable def d__law_laid : List PV → M PV := dFn 2 5
  (sSeq (sAsg (dCompL (iRg1 (dAl qLen (dAc (dVar 1) dA0))) (tName 3) (bVal (d2 pNe (d2 pIx (dVar 0) (dVar 3)) (d2 pIx (dVar 1) (dVar 3)))) (dAl mTup (dAc (dAl qLen (dAc (dAl Lib._law_climb (dAc (dVar 1) (dAc (dVar 3) dA0))) dA0)) (dAc (dVar 3) dA0))) [3] mLst) (tName 2))
  (sRet (dCompL (iSeq (dAl qSrtT (dAc (dVar 2) dA0))) (tName 4) bYes (dAl mTup (dAc (d2 pIx (dVar 4) (dC (.int 1))) (dAc (d2 pIx (dVar 1) (d2 pIx (dVar 4) (dC (.int 1)))) dA0))) [4] mLst)))
noncomputable def d__law_spelled : List PV → M PV := dFn 1 1
  (sRet (dIf (bVal (d2 pIs (dVar 0) (dC .non))) (dC (.str ("-" : Str))) (d2 pAdd (d2 pAdd (dAl qStr (dAc (d2 pIx (dVar 0) (dC (.int 0))) dA0)) (dC (.str ("." : Str)))) (dAl qStr (dAc (d2 pIx (dVar 0) (dC (.int 1))) dA0)))))
noncomputable def d__law_base : List PV → M PV := dFn 1 2
  (sRet (d2 pAdd (d2 pAdd (dC (.str ("0 base" : Str))) (dM isS mJoin (dC (.str ("" : Str))) (dAc (dCompL (iSeq (dVar 0)) (tName 1) bYes (d2 pAdd (dC (.str (" " : Str))) (dAl d__law_spelled (dAc (dVar 1) dA0))) [1] mLst) dA0))) (dC (.str ("\n" : Str)))))
noncomputable def d__law_done : List PV → M PV := dFn 2 5
  (sSeq (sFor (iSeq (dVar 1)) (tTupP 2 (tCons (tName 2) (tCons (tName 3) tNil))) (sSeq (sIf (bAnd (bVal (d2 pIsNot (dVar 3) (dC .non))) (bOr (bVal (d2 pEq (d2 pIx (dVar 3) (dC (.int 0))) (dVar 2))) (bVal (d2 pIn (dVar 2) (dCompL (iSeq (dAl Lib._law_climb (dAc (dVar 0) (dAc (d2 pIx (dVar 3) (dC (.int 0))) dA0)))) (tName 4) bYes (d2 pIx (dVar 4) (dC (.int 0))) [4] mLst))))) (sRet (dC .non)) sNext)
  (sAsg (dAl Lib._law_hung (dAc (dVar 0) (dAc (dVar 2) (dAc (dVar 3) dA0)))) (tName 0))) [2, 3])
  (sRet (dVar 0)))
noncomputable def d__law_both_right : List PV → M PV := dFn 5 13
  (sSeq (sAsg (dAl d__law_laid (dAc (dVar 2) (dAc (dVar 3) dA0))) (tName 5))
  (sSeq (sIf (bOr (bVal (d2 pNe (dAl qRepr (dAc (dAl d_lay (dAc (dVar 1) (dAc (dVar 2) (dAc (dVar 3) dA0)))) dA0)) (dAl qRepr (dAc (dAl qTup (dAc (dVar 5) dA0)) dA0)))) (bVal (d2 pNe (dAl d__law_done (dAc (dVar 2) (dAc (dVar 5) dA0))) (dVar 3)))) (sRet (dC (.bl false))) sNext)
  (sSeq (sAsg (dIf (bVal (d2 pNe (dVar 5) (dAl mLst dA0))) (dAl mLstR (dAc (dAl mTup (dAc (dC (.str ("write" : Str))) (dAc (d2 pAdd (d2 pAdd (dAl qStr (dAc (dVar 4) dA0)) (dC (.str (" lay" : Str)))) (dSl (dAl d__law_base (dAc (dVar 3) dA0)) (oSome (dC (.int 6))) oNone)) dA0))) dA0)) (dAl mLstR dA0)) (tName 6))
  (sSeq (sFor (iSeq (dVar 5)) (tTupP 2 (tCons (tName 10) (tCons (tName 11) tNil))) (sExpr (dM isL mExtend (dVar 6) (dAc (dAl mLst (dAc (dAl mTup (dAc (dC (.str ("lift" : Str))) (dAc (dVar 10) dA0))) (dAc (dAl mTup (dAc (dC (.str ("lower" : Str))) (dAc (dVar 11) dA0))) dA0))) dA0))) [10, 11])
  (sSeq (sIf (bVal (d2 pNe (dVar 5) (dAl mLst dA0))) (sExpr (dM isL mAppend (dVar 6) (dAc (dAl mTup (dAc (dC (.str ("write" : Str))) (dAc (d2 pAdd (dAl qStr (dAc (d2 pAdd (dVar 4) (dC (.int 1))) dA0)) (dC (.str (" shut\n" : Str)))) dA0))) dA0))) sNext)
  (sSeq (sIf (bVal (d2 pNe (dAl qRepr (dAc (dAl d_lay_code (dAc (dVar 1) (dAc (dVar 2) (dAc (dVar 3) (dAc (dVar 4) dA0))))) dA0)) (dAl qRepr (dAc (dAl qTup (dAc (dVar 6) dA0)) dA0)))) (sRet (dC (.bl false))) sNext)
  (sSeq (sAsg (dAl d__law_base (dAc (dVar 2) dA0)) (tName 7))
  (sSeq (sAsg (dAl mTup (dAc (dVar 3) (dAc (dC .non) (dAc (d2 pAdd (dVar 7) (dM isS mJoin (dC (.str ("" : Str))) (dAc (dCompL (iSeq (dVar 6)) (tName 12) (bVal (d2 pEq (d2 pIx (dVar 12) (dC (.int 0))) (dC (.str ("write" : Str))))) (d2 pIx (dVar 12) (dC (.int 1))) [12] mLst) dA0))) dA0)))) (tName 8))
  (sSeq (sIf (bVal (d2 pNe (dAl qRepr (dAc (dAl Lib.run_code (dAc (dVar 1) (dAc (dAl mTup (dAc (dVar 2) (dAc (dC .non) (dAc (dVar 7) dA0)))) (dAc (dAl qTup (dAc (dVar 6) dA0)) dA0)))) dA0)) (dAl qRepr (dAc (dVar 8) dA0)))) (sRet (dC (.bl false))) sNext)
  (sSeq (sAsg (dAl d__law_done (dAc (dVar 2) (dAc (dSl (dVar 5) oNone (oSome (dAl Lib._law_take (dAc (dVar 0) (dAc (d2 pAdd (dAl qLen (dAc (dVar 5) dA0)) (dC (.int 1))) dA0))))) dA0))) (tName 9))
  (sRet (d2 pEq (dAl qRepr (dAc (dAl d_lay (dAc (dVar 1) (dAc (dVar 9) (dAc (dVar 3) dA0)))) dA0)) (dAl qRepr (dAc (dAl qTup (dAc (dAl d__law_laid (dAc (dVar 9) (dAc (dVar 3) dA0))) dA0)) dA0))))))))))))))
noncomputable def d__law_changed : List PV → M PV := dFn 3 8
  (sSeq (sFor (iRg1 (dC (.int 2))) (tName 3) (sSeq (sAsg (dAl Lib._law_take (dAc (dVar 0) (dAc (dAl qLen (dAc (dVar 1) dA0)) dA0))) (tName 4))
  (sSeq (sAsg (dAl Lib._law_hung (dAc (dVar 2) (dAc (dVar 4) (dAc (dC .non) dA0)))) (tName 2))
  (sSeq (sAsg (dCompL (iRg1 (dAl qLen (dAc (dVar 1) dA0))) (tName 6) (bAnd (bVal (d2 pGt (d2 pIx (dVar 1) (dVar 6)) (dC (.int 0)))) (bVal (d2 pNe (dVar 6) (dVar 4)))) (dVar 6) [6] mLst) (tName 5))
  (sSeq (sAsg (dCompL (iSeq (dVar 5)) (tName 6) (bVal (d2 pNotIn (dVar 4) (dCompL (iSeq (dAl Lib._law_climb (dAc (dVar 2) (dAc (dVar 6) dA0)))) (tName 7) bYes (d2 pIx (dVar 7) (dC (.int 0))) [7] mLst))) (dVar 6) [6] mLst) (tName 5))
  (sIf (bAnd (bVal (d2 pNe (dVar 5) (dAl mLst dA0))) (bVal (d2 pEq (dAl Lib._law_take (dAc (dVar 0) (dAc (dC (.int 2)) dA0))) (dC (.int 0))))) (sSeq (sAsg (dAl Lib._law_one (dAc (dVar 0) (dAc (dVar 5) dA0))) (tName 6))
  (sAsg (dAl Lib._law_hung (dAc (dVar 2) (dAc (dVar 4) (dAc (dAl mTup (dAc (dVar 6) (dAc (dAl Lib._law_take (dAc (dVar 0) (dAc (d2 pIx (dVar 1) (dVar 6)) dA0))) dA0))) dA0)))) (tName 2))) sNext))))) [3, 4, 5, 6])
  (sRet (dVar 2)))
noncomputable def d_law : List PV → M PV := dFn 1 9
  (sSeq (sAsg (dAl Lib._law_pool (dAc (dVar 0) (dAc (dC (.int 0)) dA0))) (tName 1))
  (sSeq (sAsg (dAl Lib._law_one (dAc (dVar 1) (dAc (dAl mLst (dAc (dC (.int 3)) (dAc (dC (.int 5)) (dAc (dC (.int 8)) (dAc (dC (.int 24)) (dAc (dC (.int 2)) (dAc (dC (.int 1)) (dAc (dC (.int 0)) (dAc (d2 pAdd (dC (.int 1)) (dAl Lib._law_take (dAc (dVar 1) (dAc (dC (.int 24)) dA0)))) dA0))))))))) dA0))) (tName 2))
  (sSeq (sAsg (dAl qTup (dAc (dCompL (iRg1 (dVar 2)) (tName 8) bYes (dAl Lib._law_one (dAc (dVar 1) (dAc (dAl mLst (dAc (dC (.int 1)) (dAc (dC (.int 2)) (dAc (dC (.int 1)) (dAc (dC (.int 0)) (dAc (dC (.int 3)) (dAc (dC (.int 4)) dA0))))))) dA0))) [8] mLst) dA0)) (tName 3))
  (sSeq (sAsg (dAl d__law_forest (dAc (dVar 1) (dAc (dVar 3) dA0))) (tName 4))
  (sSeq (sAsg (d2 pAdd (dC (.int 1)) (dAl Lib._law_one (dAc (dVar 1) (dAc (dAl mLst (dAc (dC (.int 0)) (dAc (dAl Lib._law_take (dAc (dVar 1) (dAc (dC (.int 99)) dA0))) (dAc (dAl Lib._law_take (dAc (dVar 1) (dAc (d2 pPow (dC (.int 10)) (dC (.int 15))) dA0))) dA0)))) dA0)))) (tName 5))
  (sSeq (sPar 6 7 (dAc (dAl d__law_forest (dAc (dVar 1) (dAc (dVar 3) dA0))) (dAc (dAl Lib._law_take (dAc (dVar 1) (dAc (dC (.int 6)) dA0))) dA0)))
  (sSeq (sIf (bVal (d2 pEq (dVar 7) (dC (.int 0)))) (sAsg (dVar 4) (tName 6)) (sIf (bAnd (bVal (d2 pLt (dVar 7) (dC (.int 3)))) (bVal (d2 pGt (dVar 2) (dC (.int 0))))) (sAsg (dAl d__law_changed (dAc (dVar 1) (dAc (dVar 3) (dAc (dVar 4) dA0)))) (tName 6)) sNext))
  (sSeq (sIf (bNot (bTruth (dAl d__law_both_right (dAc (dVar 1) (dAc (dVar 3) (dAc (dVar 4) (dAc (dVar 6) (dAc (dVar 5) dA0)))))))) (sRet (dC (.bl false))) sNext)
  (sRet (dAl d__law_refusals_right (dAc (dVar 1) (dAc (dVar 3) (dAc (dVar 4) (dAc (dVar 6) dA0))))))))))))))
end K86
namespace K86
open PySem PySem.Spec PyProof.Rows L2 DN
structure Fx (P : Program) (w : World) (K : PySem.W.Frag) (mg : Str → Option Value) (cs : List (Addr × Addr)) (tb : List (Addr × Str)) : Prop where
  n_len : mg "len" = none
  n_int : mg "int" = none
  n_str : mg "str" = none
  n_tuple : mg "tuple" = none
  n_list : mg "list" = none
  n_max : mg "max" = none
  n_isinstance : mg "isinstance" = none
  n_sorted : mg "sorted" = none
  n_range : mg "range" = none
  n_enumerate : mg "enumerate" = none
  n_bool : mg "bool" = none
  n_ValueError : mg "ValueError" = none
  n_repr : mg "repr" = none
  c_MOST_THINGS : ∃ t, mg "MOST_THINGS" = some (.int 24 t)
  c_MOST_ROOMS : ∃ t, mg "MOST_ROOMS" = some (.int 4 t)
  k_Refused : ∃ D, mg "Refused" = some (.ref D)
  k_BadRooms : ∃ D, mg "BadRooms" = some (.ref D)
  k_BadForest : ∃ D, mg "BadForest" = some (.ref D)
  k_Ring : ∃ D, mg "Ring" = some (.ref D)
  k_Within : ∃ D, mg "Within" = some (.ref D)
  k_TooMany : ∃ D, mg "TooMany" = some (.ref D)
  k_BadNumber : ∃ D, mg "BadNumber" = some (.ref D)
  k_BadYard : ∃ D, mg "BadYard" = some (.ref D)
  k_BadCode : ∃ D, mg "BadCode" = some (.ref D)
  k_Hooked : ∃ D, mg "Hooked" = some (.ref D)
  k_NoHook : ∃ D, mg "NoHook" = some (.ref D)
  x_BadRooms : ∀ base, ExcCal P w K mg base "BadRooms"
  x_BadForest : ∀ base, ExcCal P w K mg base "BadForest"
  x_Ring : ∀ base, ExcCal P w K mg base "Ring"
  x_Within : ∀ base, ExcCal P w K mg base "Within"
  x_TooMany : ∀ base, ExcCal P w K mg base "TooMany"
  x_BadNumber : ∀ base, ExcCal P w K mg base "BadNumber"
  x_BadYard : ∀ base, ExcCal P w K mg base "BadYard"
  x_BadCode : ∀ base, ExcCal P w K mg base "BadCode"
  x_Hooked : ∀ base, ExcCal P w K mg base "Hooked"
  x_NoHook : ∀ base, ExcCal P w K mg base "NoHook"
  cls : ClsT K mg tbl
  d__law_pool : ∃ f fd, FunS K "_law_pool" "_law_pool" s__law_pool f fd ∧ mg "_law_pool" = some (.ref f)
  d__law_take : ∃ f fd, FunS K "_law_take" "_law_take" s__law_take f fd ∧ mg "_law_take" = some (.ref f)
  d__law_one : ∃ f fd, FunS K "_law_one" "_law_one" s__law_one f fd ∧ mg "_law_one" = some (.ref f)
  d__law_mixed : ∃ f fd, FunS K "_law_mixed" "_law_mixed" s__law_mixed f fd ∧ mg "_law_mixed" = some (.ref f)
  d__law_chain : ∃ f fd, FunS K "_law_chain" "_law_chain" s__law_chain f fd ∧ mg "_law_chain" = some (.ref f)
  d__law_grown : ∃ f fd, FunS K "_law_grown" "_law_grown" s__law_grown f fd ∧ mg "_law_grown" = some (.ref f)
  d__law_forest : ∃ f fd, FunS K "_law_forest" "_law_forest" s__law_forest f fd ∧ mg "_law_forest" = some (.ref f)
  d__law_hung : ∃ f fd, FunS K "_law_hung" "_law_hung" s__law_hung f fd ∧ mg "_law_hung" = some (.ref f)
  d__law_heard : ∃ f fd, FunS K "_law_heard" "_law_heard" s__law_heard f fd ∧ mg "_law_heard" = some (.ref f)
  d_is_whole : ∃ f fd, FunS K "is_whole" "is_whole" s_is_whole f fd ∧ mg "is_whole" = some (.ref f)
  d_made_rooms : ∃ f fd, FunS K "made_rooms" "made_rooms" s_made_rooms f fd ∧ mg "made_rooms" = some (.ref f)
  d_is_place : ∃ f fd, FunS K "is_place" "is_place" s_is_place f fd ∧ mg "is_place" = some (.ref f)
  d_first_bad : ∃ f fd, FunS K "first_bad" "first_bad" s_first_bad f fd ∧ mg "first_bad" = some (.ref f)
  d_lies_in_itself : ∃ f fd, FunS K "lies_in_itself" "lies_in_itself" s_lies_in_itself f fd ∧ mg "lies_in_itself" = some (.ref f)
  d_first_ring : ∃ f fd, FunS K "first_ring" "first_ring" s_first_ring f fd ∧ mg "first_ring" = some (.ref f)
  d_made_forest : ∃ f fd, FunS K "made_forest" "made_forest" s_made_forest f fd ∧ mg "made_forest" = some (.ref f)
  d_around : ∃ f fd, FunS K "around" "around" s_around f fd ∧ mg "around" = some (.ref f)
  d_lay_row : ∃ f fd, FunS K "lay_row" "lay_row" s_lay_row f fd ∧ mg "lay_row" = some (.ref f)
  d_lay : ∃ f fd, FunS K "lay" "lay" s_lay f fd ∧ mg "lay" = some (.ref f)
  d_want_number : ∃ f fd, FunS K "want_number" "want_number" s_want_number f fd ∧ mg "want_number" = some (.ref f)
  d_hang_code : ∃ f fd, FunS K "hang_code" "hang_code" s_hang_code f fd ∧ mg "hang_code" = some (.ref f)
  d_shut_text : ∃ f fd, FunS K "shut_text" "shut_text" s_shut_text f fd ∧ mg "shut_text" = some (.ref f)
  d_framed : ∃ f fd, FunS K "framed" "framed" s_framed f fd ∧ mg "framed" = some (.ref f)
  d_place_word : ∃ f fd, FunS K "place_word" "place_word" s_place_word f fd ∧ mg "place_word" = some (.ref f)
  d_forest_words : ∃ f fd, FunS K "forest_words" "forest_words" s_forest_words f fd ∧ mg "forest_words" = some (.ref f)
  d_lay_text : ∃ f fd, FunS K "lay_text" "lay_text" s_lay_text f fd ∧ mg "lay_text" = some (.ref f)
  d_lay_code : ∃ f fd, FunS K "lay_code" "lay_code" s_lay_code f fd ∧ mg "lay_code" = some (.ref f)
  d__law_refusals_right : MkD K mg cs tb "_law_refusals_right" (qlam "_law_refusals_right" (defScope s__law_refusals_right)) (defArgs s__law_refusals_right) (defBody s__law_refusals_right) (defScope s__law_refusals_right)
  d__law_climb : ∃ f fd, FunS K "_law_climb" "_law_climb" s__law_climb f fd ∧ mg "_law_climb" = some (.ref f)
  d__law_laid : ∃ f fd, FunS K "_law_laid" "_law_laid" s__law_laid f fd ∧ mg "_law_laid" = some (.ref f)
  d__law_spelled : ∃ f fd, FunS K "_law_spelled" "_law_spelled" s__law_spelled f fd ∧ mg "_law_spelled" = some (.ref f)
  d__law_base : ∃ f fd, FunS K "_law_base" "_law_base" s__law_base f fd ∧ mg "_law_base" = some (.ref f)
  d__law_done : ∃ f fd, FunS K "_law_done" "_law_done" s__law_done f fd ∧ mg "_law_done" = some (.ref f)
  d_is_thing : ∃ f fd, FunS K "is_thing" "is_thing" s_is_thing f fd ∧ mg "is_thing" = some (.ref f)
  d_is_hook : ∃ f fd, FunS K "is_hook" "is_hook" s_is_hook f fd ∧ mg "is_hook" = some (.ref f)
  d_made_yard : ∃ f fd, FunS K "made_yard" "made_yard" s_made_yard f fd ∧ mg "made_yard" = some (.ref f)
  d_put : ∃ f fd, FunS K "put" "put" s_put f fd ∧ mg "put" = some (.ref f)
  d_lowered : ∃ f fd, FunS K "lowered" "lowered" s_lowered f fd ∧ mg "lowered" = some (.ref f)
  d_stepped : ∃ f fd, FunS K "stepped" "stepped" s_stepped f fd ∧ mg "stepped" = some (.ref f)
  d_all_stepped : ∃ f fd, FunS K "all_stepped" "all_stepped" s_all_stepped f fd ∧ mg "all_stepped" = some (.ref f)
  d_is_code_row : ∃ f fd, FunS K "is_code_row" "is_code_row" s_is_code_row f fd ∧ mg "is_code_row" = some (.ref f)
  d_made_code : ∃ f fd, FunS K "made_code" "made_code" s_made_code f fd ∧ mg "made_code" = some (.ref f)
  d_run : ∃ f fd, FunS K "run" "run" s_run f fd ∧ mg "run" = some (.ref f)
  d__law_both_right : ∃ f fd, FunS K "_law_both_right" "_law_both_right" s__law_both_right f fd ∧ mg "_law_both_right" = some (.ref f)
  d__law_changed : ∃ f fd, FunS K "_law_changed" "_law_changed" s__law_changed f fd ∧ mg "_law_changed" = some (.ref f)
  d_law : ∃ f fd, FunS K "law" "law" s_law f fd ∧ mg "law" = some (.ref f)
section
variable {P : Program} {w : World} {K : PySem.W.Frag} {mg : Str → Option Value} {base : Heap} {cs : List (Addr × Addr)} {tb : List (Addr × Str)} {lm : Option Lm}
theorem sc__law_pool : FnScope ["_law_script", "_law_k", "_law_cell", "_law_big", "_law_mixed_here"] ["_law_script", "_law_k"] (defScope s__law_pool) := ⟨rfl, rfl, rfl, by decide +kernel, rfl, by decide +kernel, by decide +kernel⟩
theorem fn__law_pool (F : Fx P w K mg cs tb) (TB : TBs cs base mg) {f : Addr} {fd : FuncData} (D : FunS K "_law_pool" "_law_pool" s__law_pool f fd) : FnD P w K mg base ⟨tb, lm⟩ 1 f fd ["_law_script", "_law_k"] Lib._law_pool := by
  have nd := sc__law_pool.nd
  refine fn_okKN (N := ["_law_script", "_law_k", "_law_cell", "_law_big", "_law_mixed_here"]) (ps := ["_law_script", "_law_k"]) D sc__law_pool (fun T hT cdv A outer s H E hr hu tk hx ho => ?_)
  exact (ess_cons (es_set 2 nd ev_int)
  (ess_cons (es_if (eb_lt (ev_name 1) (ev_len rfl F.n_len (ea_cons (ev_name 0) ea_nil))) (ess_one (es_set 2 nd (ev_ix hu (ev_name 0) (ev_name 1)))) (ess_one (es_if (eb_ne hu (ev_name 0) (ev_lst ea_nil)) (ess_one (es_set 2 nd (ev_ix hu (ev_name 0) ev_int))) ess_nil)))
  (ess_cons (es_set 3 nd (ev_max rfl rfl F.n_max (ea_cons (ev_intC rfl F.n_int (ea_cons (ev_name 2) ea_nil)) (ea_cons (ev_intC rfl F.n_int (ea_cons (ev_sub (ev_neg ev_int) (ev_name 2)) ea_nil)) ea_nil))))
  (ess_cons (es_set 4 nd (ev_mod (ev_intC rfl F.n_int (ea_cons (ev_mul (ev_add (ev_add (ev_add (ev_mod (ev_intC rfl F.n_int (ea_cons (ev_name 3) ea_nil)) ev_int) (ev_mul (ev_mul ev_int (ev_name 1)) (ev_name 1))) (ev_mul ev_int (ev_name 1))) ev_int) ev_int) ea_nil)) ev_int))
  (ess_one (es_ret (ev_lstR (ea_cons (ev_mul (ev_name 3) (ev_intC rfl F.n_int (ea_cons (ev_and (ev_ge (ev_name 3) (ev_pow ev_int ev_int)) (ev_one (ev_lt (ev_name 1) (ev_len rfl F.n_len (ea_cons (ev_name 0) ea_nil))))) ea_nil))) (ea_cons (ev_name 4) ea_nil)))))))))
theorem ok__law_pool (F : Fx P w K mg cs tb) (TB : TBs cs base mg) : Cal P w K mg base ⟨tb, lm⟩ 1 "_law_pool" ["_law_script", "_law_k"] Lib._law_pool := by
  obtain ⟨f, fd, D, hm⟩ := F.d__law_pool
  exact ⟨f, fd, fn__law_pool F TB D, hm, D.kp, D.bindsN fun _ _ _ _ _ _ us hl => match us, hl with | [_, _], _ => rfl⟩
theorem sc__law_take : FnScope ["_law_source", "_law_top", "_law_drawn"] ["_law_source", "_law_top"] (defScope s__law_take) := ⟨rfl, rfl, rfl, by decide +kernel, rfl, by decide +kernel, by decide +kernel⟩
theorem fn__law_take (F : Fx P w K mg cs tb) (TB : TBs cs base mg) {f : Addr} {fd : FuncData} (D : FunS K "_law_take" "_law_take" s__law_take f fd) : FnD P w K mg base ⟨tb, lm⟩ 1 f fd ["_law_source", "_law_top"] Lib._law_take := by
  have nd := sc__law_take.nd
  refine fn_okN (N := ["_law_source", "_law_top", "_law_drawn"]) (ps := ["_law_source", "_law_top"]) D sc__law_take (fun T hT cdv A outer s H E hr hu tk hx ho => ?_)
  exact (ess_cons (es_if (eb_gt (ev_ix hu (ev_name 0) ev_int) ev_int) (ess_cons (es_set 2 nd (ev_mod (ev_intC rfl F.n_int (ea_cons (ev_ix hu (ev_name 0) ev_int) ea_nil)) (ev_name 1)))
  (ess_cons (es_asg (ev_div (ev_ix hu (ev_name 0) ev_int) (ev_name 1)) (eg_sub hu (ev_name 0) ev_int))
  (ess_one (es_ret (ev_name 2))))) ess_nil)
  (ess_cons (es_asg (ev_mod (ev_intC rfl F.n_int (ea_cons (ev_add (ev_mul (ev_ix hu (ev_name 0) ev_int) ev_int) ev_int) ea_nil)) ev_int) (eg_sub hu (ev_name 0) ev_int))
  (ess_one (es_ret (ev_mod (ev_intC rfl F.n_int (ea_cons (ev_div (ev_mod (ev_intC rfl F.n_int (ea_cons (ev_mul (ev_ix hu (ev_name 0) ev_int) (ev_ix hu (ev_name 0) ev_int)) ea_nil)) ev_int) ev_int) ea_nil)) (ev_name 1))))))
theorem ok__law_take (F : Fx P w K mg cs tb) (TB : TBs cs base mg) : Cal P w K mg base ⟨tb, lm⟩ 1 "_law_take" ["_law_source", "_law_top"] Lib._law_take := by
  obtain ⟨f, fd, D, hm⟩ := F.d__law_take
  exact ⟨f, fd, fn__law_take F TB D, hm, D.kp, D.bindsN fun _ _ _ _ _ _ us hl => match us, hl with | [_, _], _ => rfl⟩
theorem sc__law_one : FnScope ["_law_source", "_law_things"] ["_law_source", "_law_things"] (defScope s__law_one) := ⟨rfl, rfl, rfl, by decide +kernel, rfl, by decide +kernel, by decide +kernel⟩
theorem fn__law_one (F : Fx P w K mg cs tb) (TB : TBs cs base mg) {f : Addr} {fd : FuncData} (D : FunS K "_law_one" "_law_one" s__law_one f fd) : FnD P w K mg base ⟨tb, lm⟩ 2 f fd ["_law_source", "_law_things"] Lib._law_one := by
  have nd := sc__law_one.nd
  refine fn_okN (N := ["_law_source", "_law_things"]) (ps := ["_law_source", "_law_things"]) D sc__law_one (fun T hT cdv A outer s H E hr hu tk hx ho => ?_)
  exact (ess_one (es_ret (ev_ix hu (ev_name 1) (ev_cal (ok__law_take F TB) (hr.mono (by decide)) rfl hT hx (ea_cons (ev_name 0) (ea_cons (ev_len rfl F.n_len (ea_cons (ev_name 1) ea_nil)) ea_nil))))))
theorem ok__law_one (F : Fx P w K mg cs tb) (TB : TBs cs base mg) : Cal P w K mg base ⟨tb, lm⟩ 2 "_law_one" ["_law_source", "_law_things"] Lib._law_one := by
  obtain ⟨f, fd, D, hm⟩ := F.d__law_one
  exact ⟨f, fd, fn__law_one F TB D, hm, D.kp, D.bindsN fun _ _ _ _ _ _ us hl => match us, hl with | [_, _], _ => rfl⟩
theorem sc__law_mixed : FnScope ["_law_source", "_law_things", "_law_turn", "_law_left", "_law_found"] ["_law_source", "_law_things"] (defScope s__law_mixed) := ⟨rfl, rfl, rfl, by decide +kernel, rfl, by decide +kernel, by decide +kernel⟩
theorem fn__law_mixed (F : Fx P w K mg cs tb) (TB : TBs cs base mg) {f : Addr} {fd : FuncData} (D : FunS K "_law_mixed" "_law_mixed" s__law_mixed f fd) : FnD P w K mg base ⟨tb, lm⟩ 2 f fd ["_law_source", "_law_things"] Lib._law_mixed := by
  have nd := sc__law_mixed.nd
  refine fn_okN (N := ["_law_source", "_law_things", "_law_turn", "_law_left", "_law_found"]) (ps := ["_law_source", "_law_things"]) D sc__law_mixed (fun T hT cdv A outer s H E hr hu tk hx ho => ?_)
  exact (ess_cons (es_par 3 4 rfl nd (ea_cons (ev_lstCR rfl F.n_list (ea_cons (ev_name 1) ea_nil)) (ea_cons (ev_lstR ea_nil) ea_nil)))
  (ess_cons (es_for [2] ho rfl (ei_rg1 rfl F.n_range (ev_len rfl F.n_len (ea_cons (ev_name 1) ea_nil))) (eg_name 2 nd) (ess_one (es_expr (ev_append (ev_name 4) (ev_pop1 (ev_name 3) (ev_cal (ok__law_take F TB) (hr.mono (by decide)) rfl hT hx (ea_cons (ev_name 0) (ea_cons (ev_len rfl F.n_len (ea_cons (ev_name 3) ea_nil)) ea_nil))))))))
  (ess_one (es_ret (ev_name 4)))))
theorem ok__law_mixed (F : Fx P w K mg cs tb) (TB : TBs cs base mg) : Cal P w K mg base ⟨tb, lm⟩ 2 "_law_mixed" ["_law_source", "_law_things"] Lib._law_mixed := by
  obtain ⟨f, fd, D, hm⟩ := F.d__law_mixed
  exact ⟨f, fd, fn__law_mixed F TB D, hm, D.kp, D.bindsN fun _ _ _ _ _ _ us hl => match us, hl with | [_, _], _ => rfl⟩
theorem sc__law_chain : FnScope ["_law_source", "_law_rooms", "_law_at", "_law_some", "_law_places", "_law_last", "_law_x"] ["_law_source", "_law_rooms"] (defScope s__law_chain) := ⟨rfl, rfl, rfl, by decide +kernel, rfl, by decide +kernel, by decide +kernel⟩
theorem fn__law_chain (F : Fx P w K mg cs tb) (TB : TBs cs base mg) {f : Addr} {fd : FuncData} (D : FunS K "_law_chain" "_law_chain" s__law_chain f fd) : FnD P w K mg base ⟨tb, lm⟩ 3 f fd ["_law_source", "_law_rooms"] d__law_chain := by
  have nd := sc__law_chain.nd
  refine fn_okN (N := ["_law_source", "_law_rooms", "_law_at", "_law_some", "_law_places", "_law_last", "_law_x"]) (ps := ["_law_source", "_law_rooms"]) D sc__law_chain (fun T hT cdv A outer s H E hr hu tk hx ho => ?_)
  exact (ess_cons (es_par 3 4 rfl nd (ea_cons (ev_cal (ok__law_mixed F TB) (hr.mono (by decide)) rfl hT hx (ea_cons (ev_name 0) (ea_cons (ev_lc (own := [(("_law_x" : Str), 6)]) mLst_end rfl nd (ei_rg1 rfl F.n_range (ev_len rfl F.n_len (ea_cons (ev_name 1) ea_nil))) (blkOk_by (by first | decide +kernel | rfl)) (fun D s H C cl fp => (egw_name 6 nd)) (fun D s H C cl fp => (ets_one (eb_gt (ev_ix hu (ev_name 1) (ev_name 6)) ev_int))) (fun D s H C cl fp => (ev_name 6))) ea_nil))) (ea_cons (ev_lc (own := [(("_law_x" : Str), 6)]) mLstR_end rfl nd (ei_rg1 rfl F.n_range (ev_len rfl F.n_len (ea_cons (ev_name 1) ea_nil))) (blkOk_by (by first | decide +kernel | rfl)) (fun D s H C cl fp => (egw_name 6 nd)) (fun D s H C cl fp => ets_nil) (fun D s H C cl fp => ev_non)) ea_nil)))
  (ess_cons (es_for [2] ho rfl (ei_rg2 rfl F.n_range ev_int (ev_len rfl F.n_len (ea_cons (ev_name 3) ea_nil))) (eg_name 2 nd) (ess_one (es_asg (ev_tup (ea_cons (ev_ix hu (ev_name 3) (ev_sub (ev_name 2) ev_int)) (ea_cons (ev_cal (ok__law_take F TB) (hr.mono (by decide)) rfl hT hx (ea_cons (ev_name 0) (ea_cons (ev_ix hu (ev_name 1) (ev_ix hu (ev_name 3) (ev_sub (ev_name 2) ev_int))) ea_nil))) ea_nil))) (eg_sub hu (ev_name 4) (ev_ix hu (ev_name 3) (ev_name 2))))))
  (ess_cons (es_if (eb_ne hu (ev_name 3) (ev_lst ea_nil)) (ess_cons (es_set 5 nd (ev_ix hu (ev_name 3) (ev_sub (ev_len rfl F.n_len (ea_cons (ev_name 3) ea_nil)) ev_int)))
  (ess_one (es_for [6] ho rfl (ei_rg1 rfl F.n_range (ev_len rfl F.n_len (ea_cons (ev_name 1) ea_nil))) (eg_name 6 nd) (ess_one (es_if (eb_w (ew_and (eb_eq hu (ev_ix hu (ev_name 1) (ev_name 6)) ev_int) (ew_and1 (eb_eq hu (ev_cal (ok__law_take F TB) (hr.mono (by decide)) rfl hT hx (ea_cons (ev_name 0) (ea_cons ev_int ea_nil))) ev_int)))) (ess_one (es_asg (ev_tup (ea_cons (ev_name 5) (ea_cons (ev_cal (ok__law_take F TB) (hr.mono (by decide)) rfl hT hx (ea_cons (ev_name 0) (ea_cons (ev_ix hu (ev_name 1) (ev_name 5)) ea_nil))) ea_nil))) (eg_sub hu (ev_name 4) (ev_name 6)))) ess_nil))))) ess_nil)
  (ess_one (es_ret (ev_tupC rfl F.n_tuple (ea_cons (ev_name 4) ea_nil)))))))
theorem ok__law_chain (F : Fx P w K mg cs tb) (TB : TBs cs base mg) : Cal P w K mg base ⟨tb, lm⟩ 3 "_law_chain" ["_law_source", "_law_rooms"] d__law_chain := by
  obtain ⟨f, fd, D, hm⟩ := F.d__law_chain
  exact ⟨f, fd, fn__law_chain F TB D, hm, D.kp, D.bindsN fun _ _ _ _ _ _ us hl => match us, hl with | [_, _], _ => rfl⟩
theorem sc__law_grown : FnScope ["_law_source", "_law_rooms", "_law_order", "_law_places", "_law_at", "_law_some", "_law_x", "_law_holder", "_law_y"] ["_law_source", "_law_rooms"] (defScope s__law_grown) := ⟨rfl, rfl, rfl, by decide +kernel, rfl, by decide +kernel, by decide +kernel⟩
theorem fn__law_grown (F : Fx P w K mg cs tb) (TB : TBs cs base mg) {f : Addr} {fd : FuncData} (D : FunS K "_law_grown" "_law_grown" s__law_grown f fd) : FnD P w K mg base ⟨tb, lm⟩ 3 f fd ["_law_source", "_law_rooms"] Lib._law_grown := by
  have nd := sc__law_grown.nd
  refine fn_okN (N := ["_law_source", "_law_rooms", "_law_order", "_law_places", "_law_at", "_law_some", "_law_x", "_law_holder", "_law_y"]) (ps := ["_law_source", "_law_rooms"]) D sc__law_grown (fun T hT cdv A outer s H E hr hu tk hx ho => ?_)
  exact (ess_cons (es_set 2 nd (ev_cal (ok__law_mixed F TB) (hr.mono (by decide)) rfl hT hx (ea_cons (ev_name 0) (ea_cons (ev_lc (own := [(("_law_x" : Str), 6)]) mLst_end rfl nd (ei_rg1 rfl F.n_range (ev_len rfl F.n_len (ea_cons (ev_name 1) ea_nil))) (blkOk_by (by first | decide +kernel | rfl)) (fun D s H C cl fp => (egw_name 6 nd)) (fun D s H C cl fp => ets_nil) (fun D s H C cl fp => (ev_name 6))) ea_nil))))
  (ess_cons (by first | exact (es_setLc (own := [(("_law_x" : Str), 6)]) mLstR_end rfl nd rfl rfl (sw_true rfl rfl rfl (by decide +kernel)) (ei_rg1 rfl F.n_range (ev_len rfl F.n_len (ea_cons (ev_name 1) ea_nil))) (blkOk_by (by first | decide +kernel | rfl)) (fun D s H C cl fp => (egw_name 6 nd)) (fun D s H C cl fp => ets_nil) (fun D s H C cl fp => ev_non)) | exact (es_set 3 nd (ev_lc (own := [(("_law_x" : Str), 6)]) mLstR_end rfl nd (ei_rg1 rfl F.n_range (ev_len rfl F.n_len (ea_cons (ev_name 1) ea_nil))) (blkOk_by (by first | decide +kernel | rfl)) (fun D s H C cl fp => (egw_name 6 nd)) (fun D s H C cl fp => ets_nil) (fun D s H C cl fp => ev_non))))
  (ess_cons (es_for [4, 5, 7] ho rfl (ei_rg1 rfl F.n_range (ev_len rfl F.n_len (ea_cons (ev_name 2) ea_nil))) (eg_name 4 nd) (ess_cons (by first | exact (es_setLc (own := [(("_law_y" : Str), 8)]) mLst_end rfl nd rfl rfl (sw_true rfl rfl rfl (by decide +kernel)) (ei_seq (ev_sl (ev_name 2) eo_none (eo_some (ev_name 4)))) (blkOk_by (by first | decide +kernel | rfl)) (fun D s H C cl fp => (egw_name 8 nd)) (fun D s H C cl fp => (ets_one (eb_gt (ev_ix hu (ev_name 1) (ev_name 8)) ev_int))) (fun D s H C cl fp => (ev_name 8))) | exact (es_set 5 nd (ev_lc (own := [(("_law_y" : Str), 8)]) mLst_end rfl nd (ei_seq (ev_sl (ev_name 2) eo_none (eo_some (ev_name 4)))) (blkOk_by (by first | decide +kernel | rfl)) (fun D s H C cl fp => (egw_name 8 nd)) (fun D s H C cl fp => (ets_one (eb_gt (ev_ix hu (ev_name 1) (ev_name 8)) ev_int))) (fun D s H C cl fp => (ev_name 8)))))
  (ess_one (es_if (eb_w (ew_and (eb_ne hu (ev_name 5) (ev_lst ea_nil)) (ew_and1 (eb_gt (ev_cal (ok__law_take F TB) (hr.mono (by decide)) rfl hT hx (ea_cons (ev_name 0) (ea_cons ev_int ea_nil))) ev_int)))) (ess_cons (es_set 7 nd (ev_cal (ok__law_one F TB) (hr.mono (by decide)) rfl hT hx (ea_cons (ev_name 0) (ea_cons (ev_name 5) ea_nil))))
  (ess_one (es_asg (ev_tup (ea_cons (ev_name 7) (ea_cons (ev_cal (ok__law_take F TB) (hr.mono (by decide)) rfl hT hx (ea_cons (ev_name 0) (ea_cons (ev_ix hu (ev_name 1) (ev_name 7)) ea_nil))) ea_nil))) (eg_sub hu (ev_name 3) (ev_ix hu (ev_name 2) (ev_name 4)))))) ess_nil))))
  (ess_one (es_ret (ev_tupC rfl F.n_tuple (ea_cons (ev_name 3) ea_nil)))))))
theorem ok__law_grown (F : Fx P w K mg cs tb) (TB : TBs cs base mg) : Cal P w K mg base ⟨tb, lm⟩ 3 "_law_grown" ["_law_source", "_law_rooms"] Lib._law_grown := by
  obtain ⟨f, fd, D, hm⟩ := F.d__law_grown
  exact ⟨f, fd, fn__law_grown F TB D, hm, D.kp, D.bindsN fun _ _ _ _ _ _ us hl => match us, hl with | [_, _], _ => rfl⟩
theorem sc__law_forest : FnScope ["_law_source", "_law_rooms"] ["_law_source", "_law_rooms"] (defScope s__law_forest) := ⟨rfl, rfl, rfl, by decide +kernel, rfl, by decide +kernel, by decide +kernel⟩
theorem fn__law_forest (F : Fx P w K mg cs tb) (TB : TBs cs base mg) {f : Addr} {fd : FuncData} (D : FunS K "_law_forest" "_law_forest" s__law_forest f fd) : FnD P w K mg base ⟨tb, lm⟩ 4 f fd ["_law_source", "_law_rooms"] d__law_forest := by
  have nd := sc__law_forest.nd
  refine fn_okN (N := ["_law_source", "_law_rooms"]) (ps := ["_law_source", "_law_rooms"]) D sc__law_forest (fun T hT cdv A outer s H E hr hu tk hx ho => ?_)
  exact (ess_one (es_ret (ev_if (eb_eq hu (ev_cal (ok__law_take F TB) (hr.mono (by decide)) rfl hT hx (ea_cons (ev_name 0) (ea_cons ev_int ea_nil))) ev_int) (ev_cal (ok__law_chain F TB) (hr.mono (by decide)) rfl hT hx (ea_cons (ev_name 0) (ea_cons (ev_name 1) ea_nil))) (ev_cal (ok__law_grown F TB) (hr.mono (by decide)) rfl hT hx (ea_cons (ev_name 0) (ea_cons (ev_name 1) ea_nil))))))
theorem ok__law_forest (F : Fx P w K mg cs tb) (TB : TBs cs base mg) : Cal P w K mg base ⟨tb, lm⟩ 4 "_law_forest" ["_law_source", "_law_rooms"] d__law_forest := by
  obtain ⟨f, fd, D, hm⟩ := F.d__law_forest
  exact ⟨f, fd, fn__law_forest F TB D, hm, D.kp, D.bindsN fun _ _ _ _ _ _ us hl => match us, hl with | [_, _], _ => rfl⟩
theorem sc__law_hung : FnScope ["_law_forest_here", "_law_x", "_law_place"] ["_law_forest_here", "_law_x", "_law_place"] (defScope s__law_hung) := ⟨rfl, rfl, rfl, by decide +kernel, rfl, by decide +kernel, by decide +kernel⟩
theorem fn__law_hung (F : Fx P w K mg cs tb) (TB : TBs cs base mg) {f : Addr} {fd : FuncData} (D : FunS K "_law_hung" "_law_hung" s__law_hung f fd) : FnD P w K mg base ⟨tb, lm⟩ 1 f fd ["_law_forest_here", "_law_x", "_law_place"] Lib._law_hung := by
  have nd := sc__law_hung.nd
  refine fn_okN (N := ["_law_forest_here", "_law_x", "_law_place"]) (ps := ["_law_forest_here", "_law_x", "_law_place"]) D sc__law_hung (fun T hT cdv A outer s H E hr hu tk hx ho => ?_)
  exact (ess_one (es_ret (ev_add (ev_add (ev_sl (ev_name 0) eo_none (eo_some (ev_name 1))) (ev_tup (ea_cons (ev_name 2) ea_nil))) (ev_sl (ev_name 0) (eo_some (ev_add (ev_name 1) ev_int)) eo_none))))
theorem ok__law_hung (F : Fx P w K mg cs tb) (TB : TBs cs base mg) : Cal P w K mg base ⟨tb, lm⟩ 1 "_law_hung" ["_law_forest_here", "_law_x", "_law_place"] Lib._law_hung := by
  obtain ⟨f, fd, D, hm⟩ := F.d__law_hung
  exact ⟨f, fd, fn__law_hung F TB D, hm, D.kp, D.bindsN fun _ _ _ _ _ _ us hl => match us, hl with | [_, _, _], _ => rfl⟩
theorem sc__law_heard : FnScope ["_law_call", "error"] ["_law_call"] (defScope s__law_heard) := ⟨rfl, rfl, rfl, by decide +kernel, rfl, by decide +kernel, by decide +kernel⟩
theorem fn__law_heard (F : Fx P w K mg cs tb) (TB : TBs cs base mg) {g : List PV → M PV} (LP : LamP P w K mg base ⟨tb, lm⟩ 7 g) {f : Addr} {fd : FuncData} (D : FunS K "_law_heard" "_law_heard" s__law_heard f fd) : FnD P w K mg base ⟨tb, lm⟩ 8 f fd ["_law_call"] (d__law_heard g) := by
  have nd := sc__law_heard.nd
  refine fn_okN (N := ["_law_call", "error"]) (ps := ["_law_call"]) D sc__law_heard (fun T hT cdv A outer s H E hr hu tk hx ho => ?_)
  exact (ess_one (es_try hT.1 F.cls rfl rfl nd tk (fun E tpn txe tk ho => have hx : Lets _ E := lets_def tk; (ess_one (es_ret (ev_tup (ea_cons ev_str (ea_cons (ev_ask0 (i := 0) LP (hr.mono (by decide)) hT hx rfl (by first | exact .inl rfl | exact .inr (.inl rfl) | exact .inr (.inr rfl))) ea_nil)))))) (.named (i := 1) rfl rfl rfl (by decide) F.k_Refused.choose_spec (fun a oe c d C pn R => (ess_one (es_ret (ev_tup (ea_cons ev_str (ea_cons (ev_what R (ev_name 1)) (ea_cons (ev_isE R F.cls F.n_ValueError rfl F.n_isinstance (ea_cons (ev_name 1) (ea_cons (ev_glob rfl F.k_BadForest.choose_spec) ea_nil))) (ea_cons (ev_isE R F.cls F.n_ValueError rfl F.n_isinstance (ea_cons (ev_name 1) (ea_cons (ev_glob rfl F.k_BadNumber.choose_spec) ea_nil))) ea_nil)))))))) .nil)))
theorem lf__law_heard (F : Fx P w K mg cs tb) : ∃ fx fd, LamF P w K mg tb cs "_law_heard" fx fd ["_law_call"] (fun g => (d__law_heard g)) 6 8 := by
  obtain ⟨f, fd, D, hm⟩ := F.d__law_heard
  exact ⟨f, fd, fun b TB L g LP => fn__law_heard F TB LP D, hm, D.kp, D.bindsN fun _ _ _ _ _ _ us hl => match us, hl with | [_], _ => rfl⟩
theorem sc_is_whole : FnScope ["value"] ["value"] (defScope s_is_whole) := ⟨rfl, rfl, rfl, by decide +kernel, rfl, by decide +kernel, by decide +kernel⟩
theorem fn_is_whole (F : Fx P w K mg cs tb) (TB : TBs cs base mg) {f : Addr} {fd : FuncData} (D : FunS K "is_whole" "is_whole" s_is_whole f fd) : FnD P w K mg base ⟨tb, lm⟩ 1 f fd ["value"] Lib.is_whole := by
  have nd := sc_is_whole.nd
  refine fn_okN (N := ["value"]) (ps := ["value"]) D sc_is_whole (fun T hT cdv A outer s H E hr hu tk hx ho => ?_)
  exact (ess_one (es_ret (ev_and (ev_isi rfl F.n_isinstance (ea_cons (ev_name 0) (ea_cons (ev_bty rfl F.n_int (by decide +kernel)) ea_nil))) (ev_one (ev_not (ev_isi rfl F.n_isinstance (ea_cons (ev_name 0) (ea_cons (ev_bty rfl F.n_bool (by decide +kernel)) ea_nil))))))))
theorem ok_is_whole (F : Fx P w K mg cs tb) (TB : TBs cs base mg) : Cal P w K mg base ⟨tb, lm⟩ 1 "is_whole" ["value"] Lib.is_whole := by
  obtain ⟨f, fd, D, hm⟩ := F.d_is_whole
  exact ⟨f, fd, fn_is_whole F TB D, hm, D.kp, D.bindsN fun _ _ _ _ _ _ us hl => match us, hl with | [_], _ => rfl⟩
theorem sc_made_rooms : FnScope ["thing", "x", "many"] ["thing"] (defScope s_made_rooms) := ⟨rfl, rfl, rfl, by decide +kernel, rfl, by decide +kernel, by decide +kernel⟩
theorem fn_made_rooms (F : Fx P w K mg cs tb) (TB : TBs cs base mg) {f : Addr} {fd : FuncData} (D : FunS K "made_rooms" "made_rooms" s_made_rooms f fd) : FnD P w K mg base ⟨tb, lm⟩ 3 f fd ["thing"] Lib.made_rooms := by
  have nd := sc_made_rooms.nd
  refine fn_okN (N := ["thing", "x", "many"]) (ps := ["thing"]) D sc_made_rooms (fun T hT cdv A outer s H E hr hu tk hx ho => ?_)
  exact (ess_cons (es_if (eb_not (eb_truth (ev_isi rfl F.n_isinstance (ea_cons (ev_name 0) (ea_cons (ev_bty rfl F.n_tuple (by decide +kernel)) ea_nil))))) (ess_one (es_raise (F.x_BadRooms _) (hr.mono (by decide)) rfl tk rfl (ev_neg ev_int))) ess_nil)
  (ess_cons (es_if (eb_gt (ev_len rfl F.n_len (ea_cons (ev_name 0) ea_nil)) (ev_gint rfl F.c_MOST_THINGS)) (ess_one (es_raise (F.x_TooMany _) (hr.mono (by decide)) rfl tk rfl (ev_len rfl F.n_len (ea_cons (ev_name 0) ea_nil)))) ess_nil)
  (ess_cons (es_for [1, 2] ho rfl (ei_enum rfl F.n_enumerate (ev_name 0)) (eg_tup rfl (egs_cons (eg_name 1 nd) (egs_cons (eg_name 2 nd) egs_nil))) (ess_one (es_if (eb_w (ew_or (eb_not (eb_truth (ev_cal (ok_is_whole F TB) (hr.mono (by decide)) rfl hT hx (ea_cons (ev_name 2) ea_nil)))) (ew_or1 (eb_not (eb_chainI op_le op_le ev_int (ev_name 2) (ev_gint rfl F.c_MOST_ROOMS)))))) (ess_one (es_raise (F.x_BadRooms _) (hr.mono (by decide)) rfl tk rfl (ev_name 1))) ess_nil)))
  (ess_one (es_ret (ev_name 0))))))
theorem ok_made_rooms (F : Fx P w K mg cs tb) (TB : TBs cs base mg) : Cal P w K mg base ⟨tb, lm⟩ 3 "made_rooms" ["thing"] Lib.made_rooms := by
  obtain ⟨f, fd, D, hm⟩ := F.d_made_rooms
  exact ⟨f, fd, fn_made_rooms F TB D, hm, D.kp, D.bindsN fun _ _ _ _ _ _ us hl => match us, hl with | [_], _ => rfl⟩
theorem sc_is_place : FnScope ["rooms", "x", "place", "holder", "room"] ["rooms", "x", "place"] (defScope s_is_place) := ⟨rfl, rfl, rfl, by decide +kernel, rfl, by decide +kernel, by decide +kernel⟩
theorem fn_is_place (F : Fx P w K mg cs tb) (TB : TBs cs base mg) {f : Addr} {fd : FuncData} (D : FunS K "is_place" "is_place" s_is_place f fd) : FnD P w K mg base ⟨tb, lm⟩ 2 f fd ["rooms", "x", "place"] Lib.is_place := by
  have nd := sc_is_place.nd
  refine fn_okN (N := ["rooms", "x", "place", "holder", "room"]) (ps := ["rooms", "x", "place"]) D sc_is_place (fun T hT cdv A outer s H E hr hu tk hx ho => ?_)
  exact (ess_cons (es_if (eb_is (ev_name 2) ev_non) (ess_one (es_ret ev_bl)) ess_nil)
  (ess_cons (es_if (eb_w (ew_or (eb_not (eb_truth (ev_isi rfl F.n_isinstance (ea_cons (ev_name 2) (ea_cons (ev_bty rfl F.n_tuple (by decide +kernel)) ea_nil))))) (ew_or (eb_ne hu (ev_len rfl F.n_len (ea_cons (ev_name 2) ea_nil)) ev_int) (ew_or (eb_not (eb_truth (ev_cal (ok_is_whole F TB) (hr.mono (by decide)) rfl hT hx (ea_cons (ev_ix hu (ev_name 2) ev_int) ea_nil)))) (ew_or1 (eb_not (eb_truth (ev_cal (ok_is_whole F TB) (hr.mono (by decide)) rfl hT hx (ea_cons (ev_ix hu (ev_name 2) ev_int) ea_nil))))))))) (ess_one (es_ret ev_bl)) ess_nil)
  (ess_cons (es_asg (ev_name 2) (eg_tup rfl (egs_cons (eg_name 3 nd) (egs_cons (eg_name 4 nd) egs_nil))))
  (ess_one (es_ret (ev_and (ev_chainI op_le op_lt ev_int (ev_name 3) (ev_len rfl F.n_len (ea_cons (ev_name 0) ea_nil))) (ev_and (ev_ne hu (ev_name 3) (ev_name 1)) (ev_one (ev_chainI op_le op_lt ev_int (ev_name 4) (ev_ix hu (ev_name 0) (ev_name 3)))))))))))
theorem ok_is_place (F : Fx P w K mg cs tb) (TB : TBs cs base mg) : Cal P w K mg base ⟨tb, lm⟩ 2 "is_place" ["rooms", "x", "place"] Lib.is_place := by
  obtain ⟨f, fd, D, hm⟩ := F.d_is_place
  exact ⟨f, fd, fn_is_place F TB D, hm, D.kp, D.bindsN fun _ _ _ _ _ _ us hl => match us, hl with | [_, _, _], _ => rfl⟩
theorem sc_first_bad : FnScope ["rooms", "forest", "x", "place"] ["rooms", "forest"] (defScope s_first_bad) := ⟨rfl, rfl, rfl, by decide +kernel, rfl, by decide +kernel, by decide +kernel⟩
theorem fn_first_bad (F : Fx P w K mg cs tb) (TB : TBs cs base mg) {f : Addr} {fd : FuncData} (D : FunS K "first_bad" "first_bad" s_first_bad f fd) : FnD P w K mg base ⟨tb, lm⟩ 3 f fd ["rooms", "forest"] Lib.first_bad := by
  have nd := sc_first_bad.nd
  refine fn_okN (N := ["rooms", "forest", "x", "place"]) (ps := ["rooms", "forest"]) D sc_first_bad (fun T hT cdv A outer s H E hr hu tk hx ho => ?_)
  exact (ess_cons (es_for [2, 3] ho rfl (ei_enum rfl F.n_enumerate (ev_name 1)) (eg_tup rfl (egs_cons (eg_name 2 nd) (egs_cons (eg_name 3 nd) egs_nil))) (ess_one (es_if (eb_not (eb_truth (ev_cal (ok_is_place F TB) (hr.mono (by decide)) rfl hT hx (ea_cons (ev_name 0) (ea_cons (ev_name 2) (ea_cons (ev_name 3) ea_nil)))))) (ess_one (es_ret (ev_name 2))) ess_nil)))
  (ess_one (es_ret ev_non)))
theorem ok_first_bad (F : Fx P w K mg cs tb) (TB : TBs cs base mg) : Cal P w K mg base ⟨tb, lm⟩ 3 "first_bad" ["rooms", "forest"] Lib.first_bad := by
  obtain ⟨f, fd, D, hm⟩ := F.d_first_bad
  exact ⟨f, fd, fn_first_bad F TB D, hm, D.kp, D.bindsN fun _ _ _ _ _ _ us hl => match us, hl with | [_, _], _ => rfl⟩
theorem sc_lies_in_itself : FnScope ["forest", "x", "here", "_"] ["forest", "x"] (defScope s_lies_in_itself) := ⟨rfl, rfl, rfl, by decide +kernel, rfl, by decide +kernel, by decide +kernel⟩
theorem fn_lies_in_itself (F : Fx P w K mg cs tb) (TB : TBs cs base mg) {f : Addr} {fd : FuncData} (D : FunS K "lies_in_itself" "lies_in_itself" s_lies_in_itself f fd) : FnD P w K mg base ⟨tb, lm⟩ 1 f fd ["forest", "x"] Lib.lies_in_itself := by
  have nd := sc_lies_in_itself.nd
  refine fn_okN (N := ["forest", "x", "here", "_"]) (ps := ["forest", "x"]) D sc_lies_in_itself (fun T hT cdv A outer s H E hr hu tk hx ho => ?_)
  exact (ess_cons (es_set 2 nd (ev_name 1))
  (ess_cons (es_for [3] ho rfl (ei_rg1 rfl F.n_range (ev_len rfl F.n_len (ea_cons (ev_name 0) ea_nil))) (eg_name 3 nd) (ess_cons (es_if (eb_is (ev_ix hu (ev_name 0) (ev_name 2)) ev_non) (ess_one (es_ret ev_bl)) ess_nil)
  (ess_cons (es_set 2 nd (ev_ix hu (ev_ix hu (ev_name 0) (ev_name 2)) ev_int))
  (ess_one (es_if (eb_eq hu (ev_name 2) (ev_name 1)) (ess_one (es_ret ev_bl)) ess_nil)))))
  (ess_one (es_ret ev_bl))))
theorem ok_lies_in_itself (F : Fx P w K mg cs tb) (TB : TBs cs base mg) : Cal P w K mg base ⟨tb, lm⟩ 1 "lies_in_itself" ["forest", "x"] Lib.lies_in_itself := by
  obtain ⟨f, fd, D, hm⟩ := F.d_lies_in_itself
  exact ⟨f, fd, fn_lies_in_itself F TB D, hm, D.kp, D.bindsN fun _ _ _ _ _ _ us hl => match us, hl with | [_, _], _ => rfl⟩
theorem sc_first_ring : FnScope ["forest", "x"] ["forest"] (defScope s_first_ring) := ⟨rfl, rfl, rfl, by decide +kernel, rfl, by decide +kernel, by decide +kernel⟩
theorem fn_first_ring (F : Fx P w K mg cs tb) (TB : TBs cs base mg) {f : Addr} {fd : FuncData} (D : FunS K "first_ring" "first_ring" s_first_ring f fd) : FnD P w K mg base ⟨tb, lm⟩ 2 f fd ["forest"] Lib.first_ring := by
  have nd := sc_first_ring.nd
  refine fn_okN (N := ["forest", "x"]) (ps := ["forest"]) D sc_first_ring (fun T hT cdv A outer s H E hr hu tk hx ho => ?_)
  exact (ess_cons (es_for [1] ho rfl (ei_rg1 rfl F.n_range (ev_len rfl F.n_len (ea_cons (ev_name 0) ea_nil))) (eg_name 1 nd) (ess_one (es_if (eb_truth (ev_cal (ok_lies_in_itself F TB) (hr.mono (by decide)) rfl hT hx (ea_cons (ev_name 0) (ea_cons (ev_name 1) ea_nil)))) (ess_one (es_ret (ev_name 1))) ess_nil)))
  (ess_one (es_ret ev_non)))
theorem ok_first_ring (F : Fx P w K mg cs tb) (TB : TBs cs base mg) : Cal P w K mg base ⟨tb, lm⟩ 2 "first_ring" ["forest"] Lib.first_ring := by
  obtain ⟨f, fd, D, hm⟩ := F.d_first_ring
  exact ⟨f, fd, fn_first_ring F TB D, hm, D.kp, D.bindsN fun _ _ _ _ _ _ us hl => match us, hl with | [_], _ => rfl⟩
theorem sc_made_forest : FnScope ["rooms", "forest", "bad", "ring", "place"] ["rooms", "forest"] (defScope s_made_forest) := ⟨rfl, rfl, rfl, by decide +kernel, rfl, by decide +kernel, by decide +kernel⟩
theorem fn_made_forest (F : Fx P w K mg cs tb) (TB : TBs cs base mg) {f : Addr} {fd : FuncData} (D : FunS K "made_forest" "made_forest" s_made_forest f fd) : FnD P w K mg base ⟨tb, lm⟩ 4 f fd ["rooms", "forest"] Lib.made_forest := by
  have nd := sc_made_forest.nd
  refine fn_okN (N := ["rooms", "forest", "bad", "ring", "place"]) (ps := ["rooms", "forest"]) D sc_made_forest (fun T hT cdv A outer s H E hr hu tk hx ho => ?_)
  exact (ess_cons (es_set 0 nd (ev_cal (ok_made_rooms F TB) (hr.mono (by decide)) rfl hT hx (ea_cons (ev_name 0) ea_nil)))
  (ess_cons (es_if (eb_w (ew_or (eb_not (eb_truth (ev_isi rfl F.n_isinstance (ea_cons (ev_name 1) (ea_cons (ev_bty rfl F.n_tuple (by decide +kernel)) ea_nil))))) (ew_or1 (eb_ne hu (ev_len rfl F.n_len (ea_cons (ev_name 1) ea_nil)) (ev_len rfl F.n_len (ea_cons (ev_name 0) ea_nil)))))) (ess_one (es_raise (F.x_BadForest _) (hr.mono (by decide)) rfl tk rfl (ev_neg ev_int))) ess_nil)
  (ess_cons (es_set 2 nd (ev_cal (ok_first_bad F TB) (hr.mono (by decide)) rfl hT hx (ea_cons (ev_name 0) (ea_cons (ev_name 1) ea_nil))))
  (ess_cons (es_if (eb_isNot (ev_name 2) ev_non) (ess_one (es_raise (F.x_BadForest _) (hr.mono (by decide)) rfl tk rfl (ev_name 2))) ess_nil)
  (ess_cons (es_set 3 nd (ev_cal (ok_first_ring F TB) (hr.mono (by decide)) rfl hT hx (ea_cons (ev_name 1) ea_nil)))
  (ess_cons (es_if (eb_isNot (ev_name 3) ev_non) (ess_one (es_raise (F.x_Ring _) (hr.mono (by decide)) rfl tk rfl (ev_name 3))) ess_nil)
  (ess_one (es_ret (ev_tupC rfl F.n_tuple (ea_cons (ev_lc (own := [(("place" : Str), 4)]) mLst_end rfl nd (ei_seq (ev_name 1)) (blkOk_by (by first | decide +kernel | rfl)) (fun D s H C cl fp => (egw_name 4 nd)) (fun D s H C cl fp => ets_nil) (fun D s H C cl fp => (ev_if (eb_is (ev_name 4) ev_non) ev_non (ev_tup (ea_cons (ev_ix hu (ev_name 4) ev_int) (ea_cons (ev_ix hu (ev_name 4) ev_int) ea_nil)))))) ea_nil))))))))))
theorem ok_made_forest (F : Fx P w K mg cs tb) (TB : TBs cs base mg) : Cal P w K mg base ⟨tb, lm⟩ 4 "made_forest" ["rooms", "forest"] Lib.made_forest := by
  obtain ⟨f, fd, D, hm⟩ := F.d_made_forest
  exact ⟨f, fd, fn_made_forest F TB D, hm, D.kp, D.bindsN fun _ _ _ _ _ _ us hl => match us, hl with | [_, _], _ => rfl⟩
theorem sc_around : FnScope ["forest", "x", "told", "place"] ["forest", "x"] (defScope s_around) := ⟨rfl, rfl, rfl, by decide +kernel, rfl, by decide +kernel, by decide +kernel⟩
theorem fn_around (F : Fx P w K mg cs tb) (TB : TBs cs base mg) {f : Addr} {fd : FuncData} (D : FunS K "around" "around" s_around f fd) : FnD P w K mg base ⟨tb, lm⟩ 1 f fd ["forest", "x"] Lib.around := by
  have nd := sc_around.nd
  refine fn_okN (N := ["forest", "x", "told", "place"]) (ps := ["forest", "x"]) D sc_around (fun T hT cdv A outer s H E hr hu tk hx ho => ?_)
  exact (ess_cons (es_set 2 nd (ev_lstR ea_nil))
  (ess_cons (es_set 3 nd (ev_ix hu (ev_name 0) (ev_name 1)))
  (ess_cons (es_while [] ho (eb_isNot (ev_name 3) ev_non) (ess_cons (es_expr (ev_append (ev_name 2) (ev_ix hu (ev_name 3) ev_int)))
  (ess_one (es_set 3 nd (ev_ix hu (ev_name 0) (ev_ix hu (ev_name 3) ev_int))))))
  (ess_one (es_ret (ev_tupC rfl F.n_tuple (ea_cons (ev_name 2) ea_nil)))))))
theorem ok_around (F : Fx P w K mg cs tb) (TB : TBs cs base mg) : Cal P w K mg base ⟨tb, lm⟩ 1 "around" ["forest", "x"] Lib.around := by
  obtain ⟨f, fd, D, hm⟩ := F.d_around
  exact ⟨f, fd, fn_around F TB D, hm, D.kp, D.bindsN fun _ _ _ _ _ _ us hl => match us, hl with | [_, _], _ => rfl⟩
theorem sc_lay_row : FnScope ["forest", "target", "moved", "order", "x", "place", "depth"] ["forest", "target"] (defScope s_lay_row) := ⟨rfl, rfl, rfl, by decide +kernel, rfl, by decide +kernel, by decide +kernel⟩
theorem fn_lay_row (F : Fx P w K mg cs tb) (TB : TBs cs base mg) {f : Addr} {fd : FuncData} (D : FunS K "lay_row" "lay_row" s_lay_row f fd) : FnD P w K mg base ⟨tb, lm⟩ 2 f fd ["forest", "target"] d_lay_row := by
  have nd := sc_lay_row.nd
  refine fn_okN (N := ["forest", "target", "moved", "order", "x", "place", "depth"]) (ps := ["forest", "target"]) D sc_lay_row (fun T hT cdv A outer s H E hr hu tk hx ho => ?_)
  exact (ess_cons (by first | exact (es_setLc (own := [(("x" : Str), 4), (("place" : Str), 5)]) mLst_end rfl nd rfl rfl (sw_true rfl rfl rfl (by decide +kernel)) (ei_enum rfl F.n_enumerate (ev_name 1)) (blkOk_by (by first | decide +kernel | rfl)) (fun D s H C cl fp => (egw_tup rfl (egws_cons (egw_name 4 nd) (egws_cons (egw_name 5 nd) egws_nil)))) (fun D s H C cl fp => (ets_one (eb_ne hu (ev_ix hu (ev_name 0) (ev_name 4)) (ev_name 5)))) (fun D s H C cl fp => (ev_name 4))) | exact (es_set 2 nd (ev_lc (own := [(("x" : Str), 4), (("place" : Str), 5)]) mLst_end rfl nd (ei_enum rfl F.n_enumerate (ev_name 1)) (blkOk_by (by first | decide +kernel | rfl)) (fun D s H C cl fp => (egw_tup rfl (egws_cons (egw_name 4 nd) (egws_cons (egw_name 5 nd) egws_nil)))) (fun D s H C cl fp => (ets_one (eb_ne hu (ev_ix hu (ev_name 0) (ev_name 4)) (ev_name 5)))) (fun D s H C cl fp => (ev_name 4)))))
  (ess_cons (es_set 3 nd (ev_srtT rfl F.n_sorted (ea_cons (ev_lc (own := [(("x" : Str), 4)]) mLst_end rfl nd (ei_seq (ev_name 2)) (blkOk_by (by first | decide +kernel | rfl)) (fun D s H C cl fp => (egw_name 4 nd)) (fun D s H C cl fp => ets_nil) (fun D s H C cl fp => (ev_tup (ea_cons (ev_len rfl F.n_len (ea_cons (ev_cal (ok_around F TB) (hr.mono (by decide)) rfl hT lets_never (ea_cons (ev_name 1) (ea_cons (ev_name 4) ea_nil))) ea_nil)) (ea_cons (ev_name 4) ea_nil))))) ea_nil)))
  (ess_one (es_ret (ev_tupC rfl F.n_tuple (ea_cons (ev_lc (own := [(("depth" : Str), 6), (("x" : Str), 4)]) mLst_end rfl nd (ei_seq (ev_name 3)) (blkOk_by (by first | decide +kernel | rfl)) (fun D s H C cl fp => (egw_tup rfl (egws_cons (egw_name 6 nd) (egws_cons (egw_name 4 nd) egws_nil)))) (fun D s H C cl fp => ets_nil) (fun D s H C cl fp => (ev_tup (ea_cons (ev_name 4) (ea_cons (ev_ix hu (ev_name 1) (ev_name 4)) ea_nil))))) ea_nil))))))
theorem ok_lay_row (F : Fx P w K mg cs tb) (TB : TBs cs base mg) : Cal P w K mg base ⟨tb, lm⟩ 2 "lay_row" ["forest", "target"] d_lay_row := by
  obtain ⟨f, fd, D, hm⟩ := F.d_lay_row
  exact ⟨f, fd, fn_lay_row F TB D, hm, D.kp, D.bindsN fun _ _ _ _ _ _ us hl => match us, hl with | [_, _], _ => rfl⟩
theorem sc_lay : FnScope ["rooms", "forest", "target"] ["rooms", "forest", "target"] (defScope s_lay) := ⟨rfl, rfl, rfl, by decide +kernel, rfl, by decide +kernel, by decide +kernel⟩
theorem fn_lay (F : Fx P w K mg cs tb) (TB : TBs cs base mg) {f : Addr} {fd : FuncData} (D : FunS K "lay" "lay" s_lay f fd) : FnD P w K mg base ⟨tb, lm⟩ 5 f fd ["rooms", "forest", "target"] d_lay := by
  have nd := sc_lay.nd
  refine fn_okN (N := ["rooms", "forest", "target"]) (ps := ["rooms", "forest", "target"]) D sc_lay (fun T hT cdv A outer s H E hr hu tk hx ho => ?_)
  exact (ess_cons (es_set 0 nd (ev_cal (ok_made_rooms F TB) (hr.mono (by decide)) rfl hT hx (ea_cons (ev_name 0) ea_nil)))
  (ess_cons (es_set 1 nd (ev_cal (ok_made_forest F TB) (hr.mono (by decide)) rfl hT hx (ea_cons (ev_name 0) (ea_cons (ev_name 1) ea_nil))))
  (ess_cons (es_set 2 nd (ev_cal (ok_made_forest F TB) (hr.mono (by decide)) rfl hT hx (ea_cons (ev_name 0) (ea_cons (ev_name 2) ea_nil))))
  (ess_one (es_ret (ev_cal (ok_lay_row F TB) (hr.mono (by decide)) rfl hT hx (ea_cons (ev_name 1) (ea_cons (ev_name 2) ea_nil))))))))
theorem ok_lay (F : Fx P w K mg cs tb) (TB : TBs cs base mg) : Cal P w K mg base ⟨tb, lm⟩ 5 "lay" ["rooms", "forest", "target"] d_lay := by
  obtain ⟨f, fd, D, hm⟩ := F.d_lay
  exact ⟨f, fd, fn_lay F TB D, hm, D.kp, D.bindsN fun _ _ _ _ _ _ us hl => match us, hl with | [_, _, _], _ => rfl⟩
theorem sc_want_number : FnScope ["number"] ["number"] (defScope s_want_number) := ⟨rfl, rfl, rfl, by decide +kernel, rfl, by decide +kernel, by decide +kernel⟩
theorem fn_want_number (F : Fx P w K mg cs tb) (TB : TBs cs base mg) {f : Addr} {fd : FuncData} (D : FunS K "want_number" "want_number" s_want_number f fd) : FnD P w K mg base ⟨tb, lm⟩ 3 f fd ["number"] d_want_number := by
  have nd := sc_want_number.nd
  refine fn_okN (N := ["number"]) (ps := ["number"]) D sc_want_number (fun T hT cdv A outer s H E hr hu tk hx ho => ?_)
  exact (ess_one (es_if (eb_w (ew_or (eb_not (eb_truth (ev_cal (ok_is_whole F TB) (hr.mono (by decide)) rfl hT hx (ea_cons (ev_name 0) ea_nil)))) (ew_or1 (eb_lt (ev_name 0) ev_int)))) (ess_one (es_raise (F.x_BadNumber _) (hr.mono (by decide)) rfl tk rfl (ev_name 0))) ess_nil))
theorem ok_want_number (F : Fx P w K mg cs tb) (TB : TBs cs base mg) : Cal P w K mg base ⟨tb, lm⟩ 3 "want_number" ["number"] d_want_number := by
  obtain ⟨f, fd, D, hm⟩ := F.d_want_number
  exact ⟨f, fd, fn_want_number F TB D, hm, D.kp, D.bindsN fun _ _ _ _ _ _ us hl => match us, hl with | [_], _ => rfl⟩
theorem sc_hang_code : FnScope ["row", "code", "x", "place"] ["row"] (defScope s_hang_code) := ⟨rfl, rfl, rfl, by decide +kernel, rfl, by decide +kernel, by decide +kernel⟩
theorem fn_hang_code (F : Fx P w K mg cs tb) (TB : TBs cs base mg) {f : Addr} {fd : FuncData} (D : FunS K "hang_code" "hang_code" s_hang_code f fd) : FnD P w K mg base ⟨tb, lm⟩ 1 f fd ["row"] d_hang_code := by
  have nd := sc_hang_code.nd
  refine fn_okN (N := ["row", "code", "x", "place"]) (ps := ["row"]) D sc_hang_code (fun T hT cdv A outer s H E hr hu tk hx ho => ?_)
  exact (ess_cons (es_set 1 nd (ev_lstR ea_nil))
  (ess_cons (es_for [2, 3] ho rfl (ei_seq (ev_name 0)) (eg_tup rfl (egs_cons (eg_name 2 nd) (egs_cons (eg_name 3 nd) egs_nil))) (ess_one (es_expr (ev_extend (ev_name 1) (ev_lst (ea_cons (ev_tup (ea_cons ev_str (ea_cons (ev_name 2) ea_nil))) (ea_cons (ev_tup (ea_cons ev_str (ea_cons (ev_name 3) ea_nil))) ea_nil)))))))
  (ess_one (es_ret (ev_tupC rfl F.n_tuple (ea_cons (ev_name 1) ea_nil))))))
theorem ok_hang_code (F : Fx P w K mg cs tb) (TB : TBs cs base mg) : Cal P w K mg base ⟨tb, lm⟩ 1 "hang_code" ["row"] d_hang_code := by
  obtain ⟨f, fd, D, hm⟩ := F.d_hang_code
  exact ⟨f, fd, fn_hang_code F TB D, hm, D.kp, D.bindsN fun _ _ _ _ _ _ us hl => match us, hl with | [_], _ => rfl⟩
theorem sc_shut_text : FnScope ["number"] ["number"] (defScope s_shut_text) := ⟨rfl, rfl, rfl, by decide +kernel, rfl, by decide +kernel, by decide +kernel⟩
theorem fn_shut_text (F : Fx P w K mg cs tb) (TB : TBs cs base mg) {f : Addr} {fd : FuncData} (D : FunS K "shut_text" "shut_text" s_shut_text f fd) : FnD P w K mg base ⟨tb, lm⟩ 1 f fd ["number"] d_shut_text := by
  have nd := sc_shut_text.nd
  refine fn_okN (N := ["number"]) (ps := ["number"]) D sc_shut_text (fun T hT cdv A outer s H E hr hu tk hx ho => ?_)
  exact (ess_one (es_ret (ev_fs (.cons (ev_fmt (ev_name 0)) (.cons ev_str .nil)))))
theorem ok_shut_text (F : Fx P w K mg cs tb) (TB : TBs cs base mg) : Cal P w K mg base ⟨tb, lm⟩ 1 "shut_text" ["number"] d_shut_text := by
  obtain ⟨f, fd, D, hm⟩ := F.d_shut_text
  exact ⟨f, fd, fn_shut_text F TB D, hm, D.kp, D.bindsN fun _ _ _ _ _ _ us hl => match us, hl with | [_], _ => rfl⟩
theorem sc_framed : FnScope ["text", "row", "number"] ["text", "row", "number"] (defScope s_framed) := ⟨rfl, rfl, rfl, by decide +kernel, rfl, by decide +kernel, by decide +kernel⟩
theorem fn_framed (F : Fx P w K mg cs tb) (TB : TBs cs base mg) {f : Addr} {fd : FuncData} (D : FunS K "framed" "framed" s_framed f fd) : FnD P w K mg base ⟨tb, lm⟩ 2 f fd ["text", "row", "number"] d_framed := by
  have nd := sc_framed.nd
  refine fn_okN (N := ["text", "row", "number"]) (ps := ["text", "row", "number"]) D sc_framed (fun T hT cdv A outer s H E hr hu tk hx ho => ?_)
  exact (ess_one (es_ret (ev_add (ev_add (ev_tup (ea_cons (ev_tup (ea_cons ev_str (ea_cons (ev_name 0) ea_nil))) ea_nil)) (ev_cal (ok_hang_code F TB) (hr.mono (by decide)) rfl hT hx (ea_cons (ev_name 1) ea_nil))) (ev_tup (ea_cons (ev_tup (ea_cons ev_str (ea_cons (ev_cal (ok_shut_text F TB) (hr.mono (by decide)) rfl hT hx (ea_cons (ev_add (ev_name 2) ev_int) ea_nil)) ea_nil))) ea_nil)))))
theorem ok_framed (F : Fx P w K mg cs tb) (TB : TBs cs base mg) : Cal P w K mg base ⟨tb, lm⟩ 2 "framed" ["text", "row", "number"] d_framed := by
  obtain ⟨f, fd, D, hm⟩ := F.d_framed
  exact ⟨f, fd, fn_framed F TB D, hm, D.kp, D.bindsN fun _ _ _ _ _ _ us hl => match us, hl with | [_, _, _], _ => rfl⟩
theorem sc_place_word : FnScope ["place"] ["place"] (defScope s_place_word) := ⟨rfl, rfl, rfl, by decide +kernel, rfl, by decide +kernel, by decide +kernel⟩
theorem fn_place_word (F : Fx P w K mg cs tb) (TB : TBs cs base mg) {f : Addr} {fd : FuncData} (D : FunS K "place_word" "place_word" s_place_word f fd) : FnD P w K mg base ⟨tb, lm⟩ 1 f fd ["place"] d_place_word := by
  have nd := sc_place_word.nd
  refine fn_okN (N := ["place"]) (ps := ["place"]) D sc_place_word (fun T hT cdv A outer s H E hr hu tk hx ho => ?_)
  exact (ess_cons (es_if (eb_is (ev_name 0) ev_non) (ess_one (es_ret ev_str)) ess_nil)
  (ess_one (es_ret (ev_fs (.cons (ev_fmt (ev_ix hu (ev_name 0) ev_int)) (.cons ev_str (.cons (ev_fmt (ev_ix hu (ev_name 0) ev_int)) .nil)))))))
theorem ok_place_word (F : Fx P w K mg cs tb) (TB : TBs cs base mg) : Cal P w K mg base ⟨tb, lm⟩ 1 "place_word" ["place"] d_place_word := by
  obtain ⟨f, fd, D, hm⟩ := F.d_place_word
  exact ⟨f, fd, fn_place_word F TB D, hm, D.kp, D.bindsN fun _ _ _ _ _ _ us hl => match us, hl with | [_], _ => rfl⟩
theorem sc_forest_words : FnScope ["forest", "place"] ["forest"] (defScope s_forest_words) := ⟨rfl, rfl, rfl, by decide +kernel, rfl, by decide +kernel, by decide +kernel⟩
theorem fn_forest_words (F : Fx P w K mg cs tb) (TB : TBs cs base mg) {f : Addr} {fd : FuncData} (D : FunS K "forest_words" "forest_words" s_forest_words f fd) : FnD P w K mg base ⟨tb, lm⟩ 2 f fd ["forest"] d_forest_words := by
  have nd := sc_forest_words.nd
  refine fn_okN (N := ["forest", "place"]) (ps := ["forest"]) D sc_forest_words (fun T hT cdv A outer s H E hr hu tk hx ho => ?_)
  exact (ess_one (es_ret (ev_join ev_str (ev_lc (own := [(("place" : Str), 1)]) mLst_end rfl nd (ei_seq (ev_name 0)) (blkOk_by (by first | decide +kernel | rfl)) (fun D s H C cl fp => (egw_name 1 nd)) (fun D s H C cl fp => ets_nil) (fun D s H C cl fp => (ev_add ev_str (ev_cal (ok_place_word F TB) (hr.mono (by decide)) rfl hT lets_never (ea_cons (ev_name 1) ea_nil))))))))
theorem ok_forest_words (F : Fx P w K mg cs tb) (TB : TBs cs base mg) : Cal P w K mg base ⟨tb, lm⟩ 2 "forest_words" ["forest"] d_forest_words := by
  obtain ⟨f, fd, D, hm⟩ := F.d_forest_words
  exact ⟨f, fd, fn_forest_words F TB D, hm, D.kp, D.bindsN fun _ _ _ _ _ _ us hl => match us, hl with | [_], _ => rfl⟩
theorem sc_lay_text : FnScope ["number", "forest"] ["number", "forest"] (defScope s_lay_text) := ⟨rfl, rfl, rfl, by decide +kernel, rfl, by decide +kernel, by decide +kernel⟩
theorem fn_lay_text (F : Fx P w K mg cs tb) (TB : TBs cs base mg) {f : Addr} {fd : FuncData} (D : FunS K "lay_text" "lay_text" s_lay_text f fd) : FnD P w K mg base ⟨tb, lm⟩ 3 f fd ["number", "forest"] d_lay_text := by
  have nd := sc_lay_text.nd
  refine fn_okN (N := ["number", "forest"]) (ps := ["number", "forest"]) D sc_lay_text (fun T hT cdv A outer s H E hr hu tk hx ho => ?_)
  exact (ess_one (es_ret (ev_add (ev_add (ev_fs (.cons (ev_fmt (ev_name 0)) (.cons ev_str .nil))) (ev_cal (ok_forest_words F TB) (hr.mono (by decide)) rfl hT hx (ea_cons (ev_name 1) ea_nil))) ev_str)))
theorem ok_lay_text (F : Fx P w K mg cs tb) (TB : TBs cs base mg) : Cal P w K mg base ⟨tb, lm⟩ 3 "lay_text" ["number", "forest"] d_lay_text := by
  obtain ⟨f, fd, D, hm⟩ := F.d_lay_text
  exact ⟨f, fd, fn_lay_text F TB D, hm, D.kp, D.bindsN fun _ _ _ _ _ _ us hl => match us, hl with | [_, _], _ => rfl⟩
theorem sc_lay_code : FnScope ["rooms", "forest", "target", "number", "row"] ["rooms", "forest", "target", "number"] (defScope s_lay_code) := ⟨rfl, rfl, rfl, by decide +kernel, rfl, by decide +kernel, by decide +kernel⟩
theorem fn_lay_code (F : Fx P w K mg cs tb) (TB : TBs cs base mg) {f : Addr} {fd : FuncData} (D : FunS K "lay_code" "lay_code" s_lay_code f fd) : FnD P w K mg base ⟨tb, lm⟩ 6 f fd ["rooms", "forest", "target", "number"] d_lay_code := by
  have nd := sc_lay_code.nd
  refine fn_okN (N := ["rooms", "forest", "target", "number", "row"]) (ps := ["rooms", "forest", "target", "number"]) D sc_lay_code (fun T hT cdv A outer s H E hr hu tk hx ho => ?_)
  exact (ess_cons (es_set 4 nd (ev_cal (ok_lay F TB) (hr.mono (by decide)) rfl hT hx (ea_cons (ev_name 0) (ea_cons (ev_name 1) (ea_cons (ev_name 2) ea_nil)))))
  (ess_cons (es_expr (ev_cal (ok_want_number F TB) (hr.mono (by decide)) rfl hT hx (ea_cons (ev_name 3) ea_nil)))
  (ess_cons (es_if (eb_eq hu (ev_name 4) (ev_tup ea_nil)) (ess_one (es_ret (ev_tup ea_nil))) ess_nil)
  (ess_one (es_ret (ev_cal (ok_framed F TB) (hr.mono (by decide)) rfl hT hx (ea_cons (ev_cal (ok_lay_text F TB) (hr.mono (by decide)) rfl hT hx (ea_cons (ev_name 3) (ea_cons (ev_name 2) ea_nil))) (ea_cons (ev_name 4) (ea_cons (ev_name 3) ea_nil)))))))))
theorem ok_lay_code (F : Fx P w K mg cs tb) (TB : TBs cs base mg) : Cal P w K mg base ⟨tb, lm⟩ 6 "lay_code" ["rooms", "forest", "target", "number"] d_lay_code := by
  obtain ⟨f, fd, D, hm⟩ := F.d_lay_code
  exact ⟨f, fd, fn_lay_code F TB D, hm, D.kp, D.bindsN fun _ _ _ _ _ _ us hl => match us, hl with | [_, _, _, _], _ => rfl⟩
theorem okk_lay_code (F : Fx P w K mg cs tb) (TB : TBs cs base mg) : CalK P w K mg base ⟨tb, lm⟩ 6 "lay_code" ["rooms", "forest", "target", "number"] d_lay_code := by
  obtain ⟨f, fd, D, hm⟩ := F.d_lay_code
  exact ⟨f, fd, fn_lay_code F TB D, hm, D.kp, bindsK_of D fun _ _ _ _ _ _ us hl => match us, hl with | [_, _, _, _], _ => rfl⟩
theorem sc__law_refusals_right : FnScope ["_law_source", "_law_rooms", "_law_forest_here", "_law_target", "_law_many", "_law_low", "_law_x", "_law_y", "_law_bent", "_law_other", "_law_one_here", "_law_goal", "_law_due"] ["_law_source", "_law_rooms", "_law_forest_here", "_law_target"] (defScope s__law_refusals_right) := ⟨rfl, rfl, rfl, by decide +kernel, rfl, by decide +kernel, by decide +kernel⟩
theorem fn__law_refusals_right (F : Fx P w K mg cs tb) (TB : TBs cs base mg) {f : Addr} {fd : FuncData} {c P1 : Addr} (D : FunC K "_law_refusals_right" "_law_refusals_right" (defArgs s__law_refusals_right) (defBody s__law_refusals_right) (defScope s__law_refusals_right) f fd c) (hcP : (c, P1) ∈ cs) (hmT : (P1, qlam "_law_refusals_right" (defScope s__law_refusals_right)) ∈ tb) (hun : ∀ p ∈ tb, p.1 = P1 → p.2 = qlam "_law_refusals_right" (defScope s__law_refusals_right)) : FnD P w K mg base ⟨tb, none⟩ 9 f fd ["_law_source", "_law_rooms", "_law_forest_here", "_law_target"] d__law_refusals_right := by
  have nd := sc__law_refusals_right.nd
  refine fn_okT (N := ["_law_source", "_law_rooms", "_law_forest_here", "_law_target", "_law_many", "_law_low", "_law_x", "_law_y", "_law_bent", "_law_other", "_law_one_here", "_law_goal", "_law_due"]) (ps := ["_law_source", "_law_rooms", "_law_forest_here", "_law_target"]) D sc__law_refusals_right (fun T hT A outer s H E hr => ?_)
  have hu : (cxOf (L2N.CX P w) P w K mg base ["_law_source", "_law_rooms", "_law_forest_here", "_law_target", "_law_many", "_law_low", "_law_x", "_law_y", "_law_bent", "_law_other", "_law_one_here", "_law_goal", "_law_due"] "_law_refusals_right" (defScope s__law_refusals_right) f (.ref c) A outer s H E).A.units + 65 < cLine := hu_room hr
  have tk := L2N.takes_of (X := (cxOf (L2N.CX P w) P w K mg base ["_law_source", "_law_rooms", "_law_forest_here", "_law_target", "_law_many", "_law_low", "_law_x", "_law_y", "_law_bent", "_law_other", "_law_one_here", "_law_goal", "_law_due"] "_law_refusals_right" (defScope s__law_refusals_right) f (.ref c) A outer s H E)) rfl rfl rfl rfl
  have hx : Lets (cxOf (L2N.CX P w) P w K mg base ["_law_source", "_law_rooms", "_law_forest_here", "_law_target", "_law_many", "_law_low", "_law_x", "_law_y", "_law_bent", "_law_other", "_law_one_here", "_law_goal", "_law_due"] "_law_refusals_right" (defScope s__law_refusals_right) f (.ref c) A outer s H E) E := lets_def tk
  have ho : PassesOwn (model P w) (cxOf (L2N.CX P w) P w K mg base ["_law_source", "_law_rooms", "_law_forest_here", "_law_target", "_law_many", "_law_low", "_law_x", "_law_y", "_law_bent", "_law_other", "_law_one_here", "_law_goal", "_law_due"] "_law_refusals_right" (defScope s__law_refusals_right) f (.ref c) A outer s H E).A (cxOf (L2N.CX P w) P w K mg base ["_law_source", "_law_rooms", "_law_forest_here", "_law_target", "_law_many", "_law_low", "_law_x", "_law_y", "_law_bent", "_law_other", "_law_one_here", "_law_goal", "_law_due"] "_law_refusals_right" (defScope s__law_refusals_right) f (.ref c) A outer s H E).env (cxOf (L2N.CX P w) P w K mg base ["_law_source", "_law_rooms", "_law_forest_here", "_law_target", "_law_many", "_law_low", "_law_x", "_law_y", "_law_bent", "_law_other", "_law_one_here", "_law_goal", "_law_due"] "_law_refusals_right" (defScope s__law_refusals_right) f (.ref c) A outer s H E).xe := passes_of rfl
  exact (ess_cons (es_asg (ev_tup (ea_cons (ev_len rfl F.n_len (ea_cons (ev_name 1) ea_nil)) (ea_cons (ev_cal (ok__law_one F TB) (hr.mono (by decide)) rfl hT hx (ea_cons (ev_name 0) (ea_cons (ev_lst (ea_cons ev_int (ea_cons (ev_neg ev_int) (ea_cons (ev_neg (ev_pow ev_int ev_int)) ea_nil)))) ea_nil))) ea_nil))) (eg_tup rfl (egs_cons (eg_name 4 nd) (egs_cons (eg_name 5 nd) egs_nil))))
  (ess_cons (es_if (eb_ne hu (ev_repr hr rfl F.n_repr (ea_cons (ev_lam1 (x := ("_law_heard" : Str)) (tb := tb) (tabs := cs) (j := 6) (N := (["_law_rooms", "_law_forest_here", "_law_target", "_law_low"] : List Str)) (ps := ([] : List Str)) (fr := (["_law_rooms", "_law_forest_here", "_law_target", "_law_low"] : List Str)) (js := [1, 2, 3, 5]) hT (hr.mono (by decide)) hx rfl ⟨TB, rfl, hcP, hmT, hun, fun _ => rfl, (by show NdefX.ndefB (defScope s__law_refusals_right) _ _ = true; decide +kernel), NdefX.nscope_by (by decide +kernel), rfl, rfl, fun _ _ _ _ _ us hl => (match us, hl with | [], _ => rfl), fun b TB L cl T hT A outer s H E hr => have hu := hu_room hr; have nd : List.Nodup (["_law_rooms", "_law_forest_here", "_law_target", "_law_low"] : List Str) := (by decide); have hx : Lets _ E := lets_def (L2N.takes_of rfl rfl rfl rfl); (ev_cal (ok_lay_code F TB) (hr.mono (by decide)) rfl hT hx (ea_cons (ev_name 0) (ea_cons (ev_name 1) (ea_cons (ev_name 2) (ea_cons (ev_name 3) ea_nil)))))⟩ (lf__law_heard F) rfl) ea_nil)) (ev_repr hr rfl F.n_repr (ea_cons (ev_tup (ea_cons ev_str (ea_cons (ev_name 5) (ea_cons ev_bl (ea_cons ev_bl ea_nil))))) ea_nil))) (ess_one (es_ret ev_bl)) ess_nil)
  (ess_cons (es_if (eb_eq hu (ev_name 4) ev_int) (ess_one (es_ret ev_bl)) ess_nil)
  (ess_cons (es_par 6 7 rfl nd (ea_cons (ev_cal (ok__law_take F TB) (hr.mono (by decide)) rfl hT hx (ea_cons (ev_name 0) (ea_cons (ev_name 4) ea_nil))) (ea_cons (ev_cal (ok__law_take F TB) (hr.mono (by decide)) rfl hT hx (ea_cons (ev_name 0) (ea_cons (ev_name 4) ea_nil))) ea_nil)))
  (ess_cons (es_par 8 9 rfl nd (ea_cons (ev_cal (ok__law_hung F TB) (hr.mono (by decide)) rfl hT hx (ea_cons (ev_name 2) (ea_cons (ev_name 6) (ea_cons (ev_tup (ea_cons (ev_name 4) (ea_cons ev_int ea_nil))) ea_nil)))) (ea_cons (ev_cal (ok__law_hung F TB) (hr.mono (by decide)) rfl hT hx (ea_cons (ev_name 3) (ea_cons (ev_name 7) (ea_cons (ev_tup (ea_cons (ev_name 7) (ea_cons ev_int ea_nil))) ea_nil)))) ea_nil)))
  (ess_cons (es_for [10, 11, 12] ho rfl (ei_seq (ev_lst (ea_cons (ev_tup (ea_cons (ev_name 8) (ea_cons (ev_name 3) (ea_cons (ev_name 6) ea_nil)))) (ea_cons (ev_tup (ea_cons (ev_name 2) (ea_cons (ev_name 9) (ea_cons (ev_name 7) ea_nil)))) (ea_cons (ev_tup (ea_cons (ev_name 8) (ea_cons (ev_name 9) (ea_cons (ev_name 6) ea_nil)))) (ea_cons (ev_tup (ea_cons (ev_sl (ev_name 2) (eo_some ev_int) eo_none) (ea_cons (ev_name 9) (ea_cons (ev_neg ev_int) ea_nil)))) ea_nil)))))) (eg_tup rfl (egs_cons (eg_name 10 nd) (egs_cons (eg_name 11 nd) (egs_cons (eg_name 12 nd) egs_nil)))) (ess_cons (es_if (eb_ne hu (ev_repr hr rfl F.n_repr (ea_cons (ev_lam1 (x := ("_law_heard" : Str)) (tb := tb) (tabs := cs) (j := 6) (N := (["_law_rooms", "_law_one_here", "_law_goal"] : List Str)) (ps := ([] : List Str)) (fr := (["_law_rooms", "_law_one_here", "_law_goal"] : List Str)) (js := [1, 10, 11]) hT (hr.mono (by decide)) hx rfl ⟨TB, rfl, hcP, hmT, hun, fun _ => rfl, (by show NdefX.ndefB (defScope s__law_refusals_right) _ _ = true; decide +kernel), NdefX.nscope_by (by decide +kernel), rfl, rfl, fun _ _ _ _ _ us hl => (match us, hl with | [], _ => rfl), fun b TB L cl T hT A outer s H E hr => have hu := hu_room hr; have nd : List.Nodup (["_law_rooms", "_law_one_here", "_law_goal"] : List Str) := (by decide); have hx : Lets _ E := lets_def (L2N.takes_of rfl rfl rfl rfl); (ev_cal (ok_lay F TB) (hr.mono (by decide)) rfl hT hx (ea_cons (ev_name 0) (ea_cons (ev_name 1) (ea_cons (ev_name 2) ea_nil))))⟩ (lf__law_heard F) rfl) ea_nil)) (ev_repr hr rfl F.n_repr (ea_cons (ev_tup (ea_cons ev_str (ea_cons (ev_name 12) (ea_cons ev_bl (ea_cons ev_bl ea_nil))))) ea_nil))) (ess_one (es_ret ev_bl)) ess_nil)
  (ess_one (es_if (eb_ne hu (ev_repr hr rfl F.n_repr (ea_cons (ev_lam1 (x := ("_law_heard" : Str)) (tb := tb) (tabs := cs) (j := 6) (N := (["_law_rooms", "_law_one_here", "_law_goal", "_law_low"] : List Str)) (ps := ([] : List Str)) (fr := (["_law_rooms", "_law_one_here", "_law_goal", "_law_low"] : List Str)) (js := [1, 10, 11, 5]) hT (hr.mono (by decide)) hx rfl ⟨TB, rfl, hcP, hmT, hun, fun _ => rfl, (by show NdefX.ndefB (defScope s__law_refusals_right) _ _ = true; decide +kernel), NdefX.nscope_by (by decide +kernel), rfl, rfl, fun _ _ _ _ _ us hl => (match us, hl with | [], _ => rfl), fun b TB L cl T hT A outer s H E hr => have hu := hu_room hr; have nd : List.Nodup (["_law_rooms", "_law_one_here", "_law_goal", "_law_low"] : List Str) := (by decide); have hx : Lets _ E := lets_def (L2N.takes_of rfl rfl rfl rfl); (ev_cal (ok_lay_code F TB) (hr.mono (by decide)) rfl hT hx (ea_cons (ev_name 0) (ea_cons (ev_name 1) (ea_cons (ev_name 2) (ea_cons (ev_name 3) ea_nil)))))⟩ (lf__law_heard F) rfl) ea_nil)) (ev_repr hr rfl F.n_repr (ea_cons (ev_tup (ea_cons ev_str (ea_cons (ev_name 12) (ea_cons ev_bl (ea_cons ev_bl ea_nil))))) ea_nil))) (ess_one (es_ret ev_bl)) ess_nil))))
  (ess_one (es_ret ev_bl))))))))
theorem ok__law_refusals_right (F : Fx P w K mg cs tb) (TB : TBs cs base mg) : Cal P w K mg base ⟨tb, none⟩ 9 "_law_refusals_right" ["_law_source", "_law_rooms", "_law_forest_here", "_law_target"] d__law_refusals_right := by
  obtain ⟨f, fd, c, P1, D0, D, hm, h1, h2, h3⟩ := F.d__law_refusals_right
  exact ⟨f, fd, fn__law_refusals_right F TB D h1 h2 h3, hm, D0.kp, D0.bindsN fun _ _ _ _ _ _ us hl => match us, hl with | [_, _, _, _], _ => rfl⟩
theorem sc__law_climb : FnScope ["_law_forest_here", "_law_x", "_law_turn", "_law_found", "_law_here"] ["_law_forest_here", "_law_x"] (defScope s__law_climb) := ⟨rfl, rfl, rfl, by decide +kernel, rfl, by decide +kernel, by decide +kernel⟩
theorem fn__law_climb (F : Fx P w K mg cs tb) (TB : TBs cs base mg) {f : Addr} {fd : FuncData} (D : FunS K "_law_climb" "_law_climb" s__law_climb f fd) : FnD P w K mg base ⟨tb, lm⟩ 1 f fd ["_law_forest_here", "_law_x"] Lib._law_climb := by
  have nd := sc__law_climb.nd
  refine fn_okN (N := ["_law_forest_here", "_law_x", "_law_turn", "_law_found", "_law_here"]) (ps := ["_law_forest_here", "_law_x"]) D sc__law_climb (fun T hT cdv A outer s H E hr hu tk hx ho => ?_)
  exact (ess_cons (es_par 3 4 rfl nd (ea_cons (ev_lstR ea_nil) (ea_cons (ev_ix hu (ev_name 0) (ev_name 1)) ea_nil)))
  (ess_cons (es_for [2] ho rfl (ei_rg1 rfl F.n_range (ev_len rfl F.n_len (ea_cons (ev_name 0) ea_nil))) (eg_name 2 nd) (ess_cons (es_if (eb_is (ev_name 4) ev_non) (ess_one es_break) ess_nil)
  (ess_cons (es_expr (ev_append (ev_name 3) (ev_name 4)))
  (ess_one (es_set 4 nd (ev_ix hu (ev_name 0) (ev_ix hu (ev_name 4) ev_int)))))))
  (ess_one (es_ret (ev_name 3)))))
theorem ok__law_climb (F : Fx P w K mg cs tb) (TB : TBs cs base mg) : Cal P w K mg base ⟨tb, lm⟩ 1 "_law_climb" ["_law_forest_here", "_law_x"] Lib._law_climb := by
  obtain ⟨f, fd, D, hm⟩ := F.d__law_climb
  exact ⟨f, fd, fn__law_climb F TB D, hm, D.kp, D.bindsN fun _ _ _ _ _ _ us hl => match us, hl with | [_, _], _ => rfl⟩
theorem sc__law_laid : FnScope ["_law_forest_here", "_law_target", "_law_rows", "_law_x", "_law_row"] ["_law_forest_here", "_law_target"] (defScope s__law_laid) := ⟨rfl, rfl, rfl, by decide +kernel, rfl, by decide +kernel, by decide +kernel⟩
theorem fn__law_laid (F : Fx P w K mg cs tb) (TB : TBs cs base mg) {f : Addr} {fd : FuncData} (D : FunS K "_law_laid" "_law_laid" s__law_laid f fd) : FnD P w K mg base ⟨tb, lm⟩ 2 f fd ["_law_forest_here", "_law_target"] d__law_laid := by
  have nd := sc__law_laid.nd
  refine fn_okN (N := ["_law_forest_here", "_law_target", "_law_rows", "_law_x", "_law_row"]) (ps := ["_law_forest_here", "_law_target"]) D sc__law_laid (fun T hT cdv A outer s H E hr hu tk hx ho => ?_)
  exact (ess_cons (by first | exact (es_setLc (own := [(("_law_x" : Str), 3)]) mLst_end rfl nd rfl rfl (sw_true rfl rfl rfl (by decide +kernel)) (ei_rg1 rfl F.n_range (ev_len rfl F.n_len (ea_cons (ev_name 1) ea_nil))) (blkOk_by (by first | decide +kernel | rfl)) (fun D s H C cl fp => (egw_name 3 nd)) (fun D s H C cl fp => (ets_one (eb_ne hu (ev_ix hu (ev_name 0) (ev_name 3)) (ev_ix hu (ev_name 1) (ev_name 3))))) (fun D s H C cl fp => (ev_tup (ea_cons (ev_len rfl F.n_len (ea_cons (ev_cal (ok__law_climb F TB) (hr.mono (by decide)) rfl hT lets_never (ea_cons (ev_name 1) (ea_cons (ev_name 3) ea_nil))) ea_nil)) (ea_cons (ev_name 3) ea_nil))))) | exact (es_set 2 nd (ev_lc (own := [(("_law_x" : Str), 3)]) mLst_end rfl nd (ei_rg1 rfl F.n_range (ev_len rfl F.n_len (ea_cons (ev_name 1) ea_nil))) (blkOk_by (by first | decide +kernel | rfl)) (fun D s H C cl fp => (egw_name 3 nd)) (fun D s H C cl fp => (ets_one (eb_ne hu (ev_ix hu (ev_name 0) (ev_name 3)) (ev_ix hu (ev_name 1) (ev_name 3))))) (fun D s H C cl fp => (ev_tup (ea_cons (ev_len rfl F.n_len (ea_cons (ev_cal (ok__law_climb F TB) (hr.mono (by decide)) rfl hT lets_never (ea_cons (ev_name 1) (ea_cons (ev_name 3) ea_nil))) ea_nil)) (ea_cons (ev_name 3) ea_nil)))))))
  (ess_one (es_ret (ev_lc (own := [(("_law_row" : Str), 4)]) mLst_end rfl nd (ei_seq (ev_srtT rfl F.n_sorted (ea_cons (ev_name 2) ea_nil))) (blkOk_by (by first | decide +kernel | rfl)) (fun D s H C cl fp => (egw_name 4 nd)) (fun D s H C cl fp => ets_nil) (fun D s H C cl fp => (ev_tup (ea_cons (ev_ix hu (ev_name 4) ev_int) (ea_cons (ev_ix hu (ev_name 1) (ev_ix hu (ev_name 4) ev_int)) ea_nil))))))))
theorem ok__law_laid (F : Fx P w K mg cs tb) (TB : TBs cs base mg) : Cal P w K mg base ⟨tb, lm⟩ 2 "_law_laid" ["_law_forest_here", "_law_target"] d__law_laid := by
  obtain ⟨f, fd, D, hm⟩ := F.d__law_laid
  exact ⟨f, fd, fn__law_laid F TB D, hm, D.kp, D.bindsN fun _ _ _ _ _ _ us hl => match us, hl with | [_, _], _ => rfl⟩
theorem sc__law_spelled : FnScope ["_law_place"] ["_law_place"] (defScope s__law_spelled) := ⟨rfl, rfl, rfl, by decide +kernel, rfl, by decide +kernel, by decide +kernel⟩
theorem fn__law_spelled (F : Fx P w K mg cs tb) (TB : TBs cs base mg) {f : Addr} {fd : FuncData} (D : FunS K "_law_spelled" "_law_spelled" s__law_spelled f fd) : FnD P w K mg base ⟨tb, lm⟩ 1 f fd ["_law_place"] d__law_spelled := by
  have nd := sc__law_spelled.nd
  refine fn_okN (N := ["_law_place"]) (ps := ["_law_place"]) D sc__law_spelled (fun T hT cdv A outer s H E hr hu tk hx ho => ?_)
  exact (ess_one (es_ret (ev_if (eb_is (ev_name 0) ev_non) ev_str (ev_add (ev_add (ev_strC rfl F.n_str (ea_cons (ev_ix hu (ev_name 0) ev_int) ea_nil)) ev_str) (ev_strC rfl F.n_str (ea_cons (ev_ix hu (ev_name 0) ev_int) ea_nil))))))
theorem ok__law_spelled (F : Fx P w K mg cs tb) (TB : TBs cs base mg) : Cal P w K mg base ⟨tb, lm⟩ 1 "_law_spelled" ["_law_place"] d__law_spelled := by
  obtain ⟨f, fd, D, hm⟩ := F.d__law_spelled
  exact ⟨f, fd, fn__law_spelled F TB D, hm, D.kp, D.bindsN fun _ _ _ _ _ _ us hl => match us, hl with | [_], _ => rfl⟩
theorem sc__law_base : FnScope ["_law_forest_here", "_law_place"] ["_law_forest_here"] (defScope s__law_base) := ⟨rfl, rfl, rfl, by decide +kernel, rfl, by decide +kernel, by decide +kernel⟩
theorem fn__law_base (F : Fx P w K mg cs tb) (TB : TBs cs base mg) {f : Addr} {fd : FuncData} (D : FunS K "_law_base" "_law_base" s__law_base f fd) : FnD P w K mg base ⟨tb, lm⟩ 2 f fd ["_law_forest_here"] d__law_base := by
  have nd := sc__law_base.nd
  refine fn_okN (N := ["_law_forest_here", "_law_place"]) (ps := ["_law_forest_here"]) D sc__law_base (fun T hT cdv A outer s H E hr hu tk hx ho => ?_)
  exact (ess_one (es_ret (ev_add (ev_add ev_str (ev_join ev_str (ev_lc (own := [(("_law_place" : Str), 1)]) mLst_end rfl nd (ei_seq (ev_name 0)) (blkOk_by (by first | decide +kernel | rfl)) (fun D s H C cl fp => (egw_name 1 nd)) (fun D s H C cl fp => ets_nil) (fun D s H C cl fp => (ev_add ev_str (ev_cal (ok__law_spelled F TB) (hr.mono (by decide)) rfl hT lets_never (ea_cons (ev_name 1) ea_nil))))))) ev_str)))
theorem ok__law_base (F : Fx P w K mg cs tb) (TB : TBs cs base mg) : Cal P w K mg base ⟨tb, lm⟩ 2 "_law_base" ["_law_forest_here"] d__law_base := by
  obtain ⟨f, fd, D, hm⟩ := F.d__law_base
  exact ⟨f, fd, fn__law_base F TB D, hm, D.kp, D.bindsN fun _ _ _ _ _ _ us hl => match us, hl with | [_], _ => rfl⟩
theorem sc__law_done : FnScope ["_law_forest_here", "_law_row", "_law_x", "_law_place", "_law_one_here"] ["_law_forest_here", "_law_row"] (defScope s__law_done) := ⟨rfl, rfl, rfl, by decide +kernel, rfl, by decide +kernel, by decide +kernel⟩
theorem fn__law_done (F : Fx P w K mg cs tb) (TB : TBs cs base mg) {f : Addr} {fd : FuncData} (D : FunS K "_law_done" "_law_done" s__law_done f fd) : FnD P w K mg base ⟨tb, lm⟩ 2 f fd ["_law_forest_here", "_law_row"] d__law_done := by
  have nd := sc__law_done.nd
  refine fn_okN (N := ["_law_forest_here", "_law_row", "_law_x", "_law_place", "_law_one_here"]) (ps := ["_law_forest_here", "_law_row"]) D sc__law_done (fun T hT cdv A outer s H E hr hu tk hx ho => ?_)
  exact (ess_cons (es_for [2, 3] ho rfl (ei_seq (ev_name 1)) (eg_tup rfl (egs_cons (eg_name 2 nd) (egs_cons (eg_name 3 nd) egs_nil))) (ess_cons (es_if (eb_w (ew_and (eb_isNot (ev_name 3) ev_non) (ew_and1 (eb_w (ew_or (eb_eq hu (ev_ix hu (ev_name 3) ev_int) (ev_name 2)) (ew_or1 (eb_in hu (ev_name 2) (ev_lc (own := [(("_law_one_here" : Str), 4)]) mLst_end rfl nd (ei_seq (ev_cal (ok__law_climb F TB) (hr.mono (by decide)) rfl hT hx (ea_cons (ev_name 0) (ea_cons (ev_ix hu (ev_name 3) ev_int) ea_nil)))) (blkOk_by (by first | decide +kernel | rfl)) (fun D s H C cl fp => (egw_name 4 nd)) (fun D s H C cl fp => ets_nil) (fun D s H C cl fp => (ev_ix hu (ev_name 4) ev_int)))))))))) (ess_one (es_ret ev_non)) ess_nil)
  (ess_one (es_set 0 nd (ev_cal (ok__law_hung F TB) (hr.mono (by decide)) rfl hT hx (ea_cons (ev_name 0) (ea_cons (ev_name 2) (ea_cons (ev_name 3) ea_nil))))))))
  (ess_one (es_ret (ev_name 0))))
theorem ok__law_done (F : Fx P w K mg cs tb) (TB : TBs cs base mg) : Cal P w K mg base ⟨tb, lm⟩ 2 "_law_done" ["_law_forest_here", "_law_row"] d__law_done := by
  obtain ⟨f, fd, D, hm⟩ := F.d__law_done
  exact ⟨f, fd, fn__law_done F TB D, hm, D.kp, D.bindsN fun _ _ _ _ _ _ us hl => match us, hl with | [_, _], _ => rfl⟩
theorem sc_is_thing : FnScope ["rooms", "x"] ["rooms", "x"] (defScope s_is_thing) := ⟨rfl, rfl, rfl, by decide +kernel, rfl, by decide +kernel, by decide +kernel⟩
theorem fn_is_thing (F : Fx P w K mg cs tb) (TB : TBs cs base mg) {f : Addr} {fd : FuncData} (D : FunS K "is_thing" "is_thing" s_is_thing f fd) : FnD P w K mg base ⟨tb, lm⟩ 2 f fd ["rooms", "x"] Lib.is_thing := by
  have nd := sc_is_thing.nd
  refine fn_okN (N := ["rooms", "x"]) (ps := ["rooms", "x"]) D sc_is_thing (fun T hT cdv A outer s H E hr hu tk hx ho => ?_)
  exact (ess_one (es_ret (ev_and (ev_cal (ok_is_whole F TB) (hr.mono (by decide)) rfl hT hx (ea_cons (ev_name 1) ea_nil)) (ev_one (ev_chainI op_le op_lt ev_int (ev_name 1) (ev_len rfl F.n_len (ea_cons (ev_name 0) ea_nil)))))))
theorem ok_is_thing (F : Fx P w K mg cs tb) (TB : TBs cs base mg) : Cal P w K mg base ⟨tb, lm⟩ 2 "is_thing" ["rooms", "x"] Lib.is_thing := by
  obtain ⟨f, fd, D, hm⟩ := F.d_is_thing
  exact ⟨f, fd, fn_is_thing F TB D, hm, D.kp, D.bindsN fun _ _ _ _ _ _ us hl => match us, hl with | [_, _], _ => rfl⟩
theorem sc_is_hook : FnScope ["rooms", "forest", "hook"] ["rooms", "forest", "hook"] (defScope s_is_hook) := ⟨rfl, rfl, rfl, by decide +kernel, rfl, by decide +kernel, by decide +kernel⟩
theorem fn_is_hook (F : Fx P w K mg cs tb) (TB : TBs cs base mg) {f : Addr} {fd : FuncData} (D : FunS K "is_hook" "is_hook" s_is_hook f fd) : FnD P w K mg base ⟨tb, lm⟩ 3 f fd ["rooms", "forest", "hook"] Lib.is_hook := by
  have nd := sc_is_hook.nd
  refine fn_okN (N := ["rooms", "forest", "hook"]) (ps := ["rooms", "forest", "hook"]) D sc_is_hook (fun T hT cdv A outer s H E hr hu tk hx ho => ?_)
  exact (ess_one (es_ret (ev_or (ev_is (ev_name 2) ev_non) (ev_one (ev_and (ev_cal (ok_is_thing F TB) (hr.mono (by decide)) rfl hT hx (ea_cons (ev_name 0) (ea_cons (ev_name 2) ea_nil))) (ev_one (ev_is (ev_ix hu (ev_name 1) (ev_name 2)) ev_non)))))))
theorem ok_is_hook (F : Fx P w K mg cs tb) (TB : TBs cs base mg) : Cal P w K mg base ⟨tb, lm⟩ 3 "is_hook" ["rooms", "forest", "hook"] Lib.is_hook := by
  obtain ⟨f, fd, D, hm⟩ := F.d_is_hook
  exact ⟨f, fd, fn_is_hook F TB D, hm, D.kp, D.bindsN fun _ _ _ _ _ _ us hl => match us, hl with | [_, _, _], _ => rfl⟩
theorem sc_made_yard : FnScope ["rooms", "yard", "forest"] ["rooms", "yard"] (defScope s_made_yard) := ⟨rfl, rfl, rfl, by decide +kernel, rfl, by decide +kernel, by decide +kernel⟩
theorem fn_made_yard (F : Fx P w K mg cs tb) (TB : TBs cs base mg) {f : Addr} {fd : FuncData} (D : FunS K "made_yard" "made_yard" s_made_yard f fd) : FnD P w K mg base ⟨tb, lm⟩ 5 f fd ["rooms", "yard"] Lib.made_yard := by
  have nd := sc_made_yard.nd
  refine fn_okN (N := ["rooms", "yard", "forest"]) (ps := ["rooms", "yard"]) D sc_made_yard (fun T hT cdv A outer s H E hr hu tk hx ho => ?_)
  exact (ess_cons (es_set 0 nd (ev_cal (ok_made_rooms F TB) (hr.mono (by decide)) rfl hT hx (ea_cons (ev_name 0) ea_nil)))
  (ess_cons (es_if (eb_w (ew_or (eb_not (eb_truth (ev_isi rfl F.n_isinstance (ea_cons (ev_name 1) (ea_cons (ev_bty rfl F.n_tuple (by decide +kernel)) ea_nil))))) (ew_or1 (eb_ne hu (ev_len rfl F.n_len (ea_cons (ev_name 1) ea_nil)) ev_int)))) (ess_one (es_raise (F.x_BadYard _) (hr.mono (by decide)) rfl tk rfl (ev_neg ev_int))) ess_nil)
  (ess_cons (es_set 2 nd (ev_cal (ok_made_forest F TB) (hr.mono (by decide)) rfl hT hx (ea_cons (ev_name 0) (ea_cons (ev_ix hu (ev_name 1) ev_int) ea_nil))))
  (ess_cons (es_if (eb_not (eb_truth (ev_cal (ok_is_hook F TB) (hr.mono (by decide)) rfl hT hx (ea_cons (ev_name 0) (ea_cons (ev_name 2) (ea_cons (ev_ix hu (ev_name 1) ev_int) ea_nil)))))) (ess_one (es_raise (F.x_BadYard _) (hr.mono (by decide)) rfl tk rfl ev_int)) ess_nil)
  (ess_cons (es_if (eb_not (eb_truth (ev_isi rfl F.n_isinstance (ea_cons (ev_ix hu (ev_name 1) ev_int) (ea_cons (ev_bty rfl F.n_str (by decide +kernel)) ea_nil))))) (ess_one (es_raise (F.x_BadYard _) (hr.mono (by decide)) rfl tk rfl ev_int)) ess_nil)
  (ess_one (es_ret (ev_tup (ea_cons (ev_name 2) (ea_cons (ev_ix hu (ev_name 1) ev_int) (ea_cons (ev_ix hu (ev_name 1) ev_int) ea_nil)))))))))))
theorem ok_made_yard (F : Fx P w K mg cs tb) (TB : TBs cs base mg) : Cal P w K mg base ⟨tb, lm⟩ 5 "made_yard" ["rooms", "yard"] Lib.made_yard := by
  obtain ⟨f, fd, D, hm⟩ := F.d_made_yard
  exact ⟨f, fd, fn_made_yard F TB D, hm, D.kp, D.bindsN fun _ _ _ _ _ _ us hl => match us, hl with | [_, _], _ => rfl⟩
theorem sc_put : FnScope ["forest", "x", "place"] ["forest", "x", "place"] (defScope s_put) := ⟨rfl, rfl, rfl, by decide +kernel, rfl, by decide +kernel, by decide +kernel⟩
theorem fn_put (F : Fx P w K mg cs tb) (TB : TBs cs base mg) {f : Addr} {fd : FuncData} (D : FunS K "put" "put" s_put f fd) : FnD P w K mg base ⟨tb, lm⟩ 1 f fd ["forest", "x", "place"] Lib._law_hung := by
  have nd := sc_put.nd
  refine fn_okN (N := ["forest", "x", "place"]) (ps := ["forest", "x", "place"]) D sc_put (fun T hT cdv A outer s H E hr hu tk hx ho => ?_)
  exact (ess_one (es_ret (ev_add (ev_add (ev_sl (ev_name 0) eo_none (eo_some (ev_name 1))) (ev_tup (ea_cons (ev_name 2) ea_nil))) (ev_sl (ev_name 0) (eo_some (ev_add (ev_name 1) ev_int)) eo_none))))
theorem ok_put (F : Fx P w K mg cs tb) (TB : TBs cs base mg) : Cal P w K mg base ⟨tb, lm⟩ 1 "put" ["forest", "x", "place"] Lib._law_hung := by
  obtain ⟨f, fd, D, hm⟩ := F.d_put
  exact ⟨f, fd, fn_put F TB D, hm, D.kp, D.bindsN fun _ _ _ _ _ _ us hl => match us, hl with | [_, _, _], _ => rfl⟩
theorem sc_lowered : FnScope ["forest", "hook", "place"] ["forest", "hook", "place"] (defScope s_lowered) := ⟨rfl, rfl, rfl, by decide +kernel, rfl, by decide +kernel, by decide +kernel⟩
theorem fn_lowered (F : Fx P w K mg cs tb) (TB : TBs cs base mg) {f : Addr} {fd : FuncData} (D : FunS K "lowered" "lowered" s_lowered f fd) : FnD P w K mg base ⟨tb, lm⟩ 3 f fd ["forest", "hook", "place"] Lib.lowered := by
  have nd := sc_lowered.nd
  refine fn_okN (N := ["forest", "hook", "place"]) (ps := ["forest", "hook", "place"]) D sc_lowered (fun T hT cdv A outer s H E hr hu tk hx ho => ?_)
  exact (ess_cons (es_if (eb_is (ev_name 1) ev_non) (ess_one (es_raise (F.x_NoHook _) (hr.mono (by decide)) rfl tk rfl ev_int)) ess_nil)
  (ess_cons (es_if (eb_w (ew_and (eb_isNot (ev_name 2) ev_non) (ew_and1 (eb_w (ew_or (eb_eq hu (ev_ix hu (ev_name 2) ev_int) (ev_name 1)) (ew_or1 (eb_in hu (ev_name 1) (ev_cal (ok_around F TB) (hr.mono (by decide)) rfl hT hx (ea_cons (ev_name 0) (ea_cons (ev_ix hu (ev_name 2) ev_int) ea_nil)))))))))) (ess_one (es_raise (F.x_Within _) (hr.mono (by decide)) rfl tk rfl (ev_ix hu (ev_name 2) ev_int))) ess_nil)
  (ess_one (es_ret (ev_cal (ok_put F TB) (hr.mono (by decide)) rfl hT hx (ea_cons (ev_name 0) (ea_cons (ev_name 1) (ea_cons (ev_name 2) ea_nil))))))))
theorem ok_lowered (F : Fx P w K mg cs tb) (TB : TBs cs base mg) : Cal P w K mg base ⟨tb, lm⟩ 3 "lowered" ["forest", "hook", "place"] Lib.lowered := by
  obtain ⟨f, fd, D, hm⟩ := F.d_lowered
  exact ⟨f, fd, fn_lowered F TB D, hm, D.kp, D.bindsN fun _ _ _ _ _ _ us hl => match us, hl with | [_, _, _], _ => rfl⟩
theorem sc_stepped : FnScope ["yard", "row", "forest", "hook", "journal"] ["yard", "row"] (defScope s_stepped) := ⟨rfl, rfl, rfl, by decide +kernel, rfl, by decide +kernel, by decide +kernel⟩
theorem fn_stepped (F : Fx P w K mg cs tb) (TB : TBs cs base mg) {f : Addr} {fd : FuncData} (D : FunS K "stepped" "stepped" s_stepped f fd) : FnD P w K mg base ⟨tb, lm⟩ 4 f fd ["yard", "row"] Lib.stepped := by
  have nd := sc_stepped.nd
  refine fn_okN (N := ["yard", "row", "forest", "hook", "journal"]) (ps := ["yard", "row"]) D sc_stepped (fun T hT cdv A outer s H E hr hu tk hx ho => ?_)
  exact (ess_cons (es_asg (ev_name 0) (eg_tup rfl (egs_cons (eg_name 2 nd) (egs_cons (eg_name 3 nd) (egs_cons (eg_name 4 nd) egs_nil)))))
  (ess_cons (es_if (eb_eq hu (ev_ix hu (ev_name 1) ev_int) ev_str) (ess_cons (es_if (eb_isNot (ev_name 3) ev_non) (ess_one (es_raise (F.x_Hooked _) (hr.mono (by decide)) rfl tk rfl (ev_name 3))) ess_nil)
  (ess_one (es_ret (ev_tup (ea_cons (ev_cal (ok_put F TB) (hr.mono (by decide)) rfl hT hx (ea_cons (ev_name 2) (ea_cons (ev_ix hu (ev_name 1) ev_int) (ea_cons ev_non ea_nil)))) (ea_cons (ev_ix hu (ev_name 1) ev_int) (ea_cons (ev_name 4) ea_nil))))))) ess_nil)
  (ess_cons (es_if (eb_eq hu (ev_ix hu (ev_name 1) ev_int) ev_str) (ess_one (es_ret (ev_tup (ea_cons (ev_cal (ok_lowered F TB) (hr.mono (by decide)) rfl hT hx (ea_cons (ev_name 2) (ea_cons (ev_name 3) (ea_cons (ev_ix hu (ev_name 1) ev_int) ea_nil)))) (ea_cons ev_non (ea_cons (ev_name 4) ea_nil)))))) ess_nil)
  (ess_cons (es_if (eb_eq hu (ev_ix hu (ev_name 1) ev_int) ev_str) (ess_one (es_ret (ev_tup (ea_cons (ev_name 2) (ea_cons (ev_name 3) (ea_cons (ev_add (ev_name 4) (ev_ix hu (ev_name 1) ev_int)) ea_nil)))))) ess_nil)
  (ess_one (es_ret (ev_tup (ea_cons (ev_name 2) (ea_cons (ev_name 3) (ea_cons (ev_sl (ev_name 4) eo_none (eo_some (ev_add (ev_rfind (ev_name 4) ev_str) ev_int))) ea_nil))))))))))
theorem ok_stepped (F : Fx P w K mg cs tb) (TB : TBs cs base mg) : Cal P w K mg base ⟨tb, lm⟩ 4 "stepped" ["yard", "row"] Lib.stepped := by
  obtain ⟨f, fd, D, hm⟩ := F.d_stepped
  exact ⟨f, fd, fn_stepped F TB D, hm, D.kp, D.bindsN fun _ _ _ _ _ _ us hl => match us, hl with | [_, _], _ => rfl⟩
theorem sc_all_stepped : FnScope ["yard", "code", "row"] ["yard", "code"] (defScope s_all_stepped) := ⟨rfl, rfl, rfl, by decide +kernel, rfl, by decide +kernel, by decide +kernel⟩
theorem fn_all_stepped (F : Fx P w K mg cs tb) (TB : TBs cs base mg) {f : Addr} {fd : FuncData} (D : FunS K "all_stepped" "all_stepped" s_all_stepped f fd) : FnD P w K mg base ⟨tb, lm⟩ 5 f fd ["yard", "code"] Lib.all_stepped := by
  have nd := sc_all_stepped.nd
  refine fn_okN (N := ["yard", "code", "row"]) (ps := ["yard", "code"]) D sc_all_stepped (fun T hT cdv A outer s H E hr hu tk hx ho => ?_)
  exact (ess_cons (es_for [2] ho rfl (ei_seq (ev_name 1)) (eg_name 2 nd) (ess_one (es_set 0 nd (ev_cal (ok_stepped F TB) (hr.mono (by decide)) rfl hT hx (ea_cons (ev_name 0) (ea_cons (ev_name 2) ea_nil))))))
  (ess_one (es_ret (ev_name 0))))
theorem ok_all_stepped (F : Fx P w K mg cs tb) (TB : TBs cs base mg) : Cal P w K mg base ⟨tb, lm⟩ 5 "all_stepped" ["yard", "code"] Lib.all_stepped := by
  obtain ⟨f, fd, D, hm⟩ := F.d_all_stepped
  exact ⟨f, fd, fn_all_stepped F TB D, hm, D.kp, D.bindsN fun _ _ _ _ _ _ us hl => match us, hl with | [_, _], _ => rfl⟩
theorem sc_is_code_row : FnScope ["rooms", "row", "word", "what"] ["rooms", "row"] (defScope s_is_code_row) := ⟨rfl, rfl, rfl, by decide +kernel, rfl, by decide +kernel, by decide +kernel⟩
theorem fn_is_code_row (F : Fx P w K mg cs tb) (TB : TBs cs base mg) {f : Addr} {fd : FuncData} (D : FunS K "is_code_row" "is_code_row" s_is_code_row f fd) : FnD P w K mg base ⟨tb, lm⟩ 3 f fd ["rooms", "row"] Lib.is_code_row := by
  have nd := sc_is_code_row.nd
  refine fn_okN (N := ["rooms", "row", "word", "what"]) (ps := ["rooms", "row"]) D sc_is_code_row (fun T hT cdv A outer s H E hr hu tk hx ho => ?_)
  exact (ess_cons (es_if (eb_w (ew_or (eb_not (eb_truth (ev_isi rfl F.n_isinstance (ea_cons (ev_name 1) (ea_cons (ev_bty rfl F.n_tuple (by decide +kernel)) ea_nil))))) (ew_or1 (eb_eq hu (ev_name 1) (ev_tup (ea_cons ev_str ea_nil)))))) (ess_one (es_ret (ev_eq hu (ev_name 1) (ev_tup (ea_cons ev_str ea_nil))))) ess_nil)
  (ess_cons (es_if (eb_ne hu (ev_len rfl F.n_len (ea_cons (ev_name 1) ea_nil)) ev_int) (ess_one (es_ret ev_bl)) ess_nil)
  (ess_cons (es_asg (ev_name 1) (eg_tup rfl (egs_cons (eg_name 2 nd) (egs_cons (eg_name 3 nd) egs_nil))))
  (ess_cons (es_if (eb_eq hu (ev_name 2) ev_str) (ess_one (es_ret (ev_cal (ok_is_thing F TB) (hr.mono (by decide)) rfl hT hx (ea_cons (ev_name 0) (ea_cons (ev_name 3) ea_nil))))) ess_nil)
  (ess_cons (es_if (eb_eq hu (ev_name 2) ev_str) (ess_one (es_ret (ev_cal (ok_is_place F TB) (hr.mono (by decide)) rfl hT hx (ea_cons (ev_name 0) (ea_cons (ev_neg ev_int) (ea_cons (ev_name 3) ea_nil)))))) ess_nil)
  (ess_one (es_ret (ev_and (ev_eq hu (ev_name 2) ev_str) (ev_and (ev_isi rfl F.n_isinstance (ea_cons (ev_name 3) (ea_cons (ev_bty rfl F.n_str (by decide +kernel)) ea_nil))) (ev_one (ev_ne hu (ev_name 3) ev_str)))))))))))
theorem ok_is_code_row (F : Fx P w K mg cs tb) (TB : TBs cs base mg) : Cal P w K mg base ⟨tb, lm⟩ 3 "is_code_row" ["rooms", "row"] Lib.is_code_row := by
  obtain ⟨f, fd, D, hm⟩ := F.d_is_code_row
  exact ⟨f, fd, fn_is_code_row F TB D, hm, D.kp, D.bindsN fun _ _ _ _ _ _ us hl => match us, hl with | [_, _], _ => rfl⟩
theorem sc_made_code : FnScope ["rooms", "code", "index", "row"] ["rooms", "code"] (defScope s_made_code) := ⟨rfl, rfl, rfl, by decide +kernel, rfl, by decide +kernel, by decide +kernel⟩
theorem fn_made_code (F : Fx P w K mg cs tb) (TB : TBs cs base mg) {f : Addr} {fd : FuncData} (D : FunS K "made_code" "made_code" s_made_code f fd) : FnD P w K mg base ⟨tb, lm⟩ 4 f fd ["rooms", "code"] Lib.made_code := by
  have nd := sc_made_code.nd
  refine fn_okN (N := ["rooms", "code", "index", "row"]) (ps := ["rooms", "code"]) D sc_made_code (fun T hT cdv A outer s H E hr hu tk hx ho => ?_)
  exact (ess_cons (es_set 0 nd (ev_cal (ok_made_rooms F TB) (hr.mono (by decide)) rfl hT hx (ea_cons (ev_name 0) ea_nil)))
  (ess_cons (es_if (eb_not (eb_truth (ev_isi rfl F.n_isinstance (ea_cons (ev_name 1) (ea_cons (ev_bty rfl F.n_tuple (by decide +kernel)) ea_nil))))) (ess_one (es_raise (F.x_BadCode _) (hr.mono (by decide)) rfl tk rfl (ev_neg ev_int))) ess_nil)
  (ess_cons (es_for [2, 3] ho rfl (ei_enum rfl F.n_enumerate (ev_name 1)) (eg_tup rfl (egs_cons (eg_name 2 nd) (egs_cons (eg_name 3 nd) egs_nil))) (ess_one (es_if (eb_not (eb_truth (ev_cal (ok_is_code_row F TB) (hr.mono (by decide)) rfl hT hx (ea_cons (ev_name 0) (ea_cons (ev_name 3) ea_nil))))) (ess_one (es_raise (F.x_BadCode _) (hr.mono (by decide)) rfl tk rfl (ev_name 2))) ess_nil)))
  (ess_one (es_ret (ev_name 1))))))
theorem ok_made_code (F : Fx P w K mg cs tb) (TB : TBs cs base mg) : Cal P w K mg base ⟨tb, lm⟩ 4 "made_code" ["rooms", "code"] Lib.made_code := by
  obtain ⟨f, fd, D, hm⟩ := F.d_made_code
  exact ⟨f, fd, fn_made_code F TB D, hm, D.kp, D.bindsN fun _ _ _ _ _ _ us hl => match us, hl with | [_, _], _ => rfl⟩
theorem sc_run : FnScope ["rooms", "yard", "code"] ["rooms", "yard", "code"] (defScope s_run) := ⟨rfl, rfl, rfl, by decide +kernel, rfl, by decide +kernel, by decide +kernel⟩
theorem fn_run (F : Fx P w K mg cs tb) (TB : TBs cs base mg) {f : Addr} {fd : FuncData} (D : FunS K "run" "run" s_run f fd) : FnD P w K mg base ⟨tb, lm⟩ 6 f fd ["rooms", "yard", "code"] Lib.run_code := by
  have nd := sc_run.nd
  refine fn_okN (N := ["rooms", "yard", "code"]) (ps := ["rooms", "yard", "code"]) D sc_run (fun T hT cdv A outer s H E hr hu tk hx ho => ?_)
  exact (ess_cons (es_set 1 nd (ev_cal (ok_made_yard F TB) (hr.mono (by decide)) rfl hT hx (ea_cons (ev_name 0) (ea_cons (ev_name 1) ea_nil))))
  (ess_one (es_ret (ev_cal (ok_all_stepped F TB) (hr.mono (by decide)) rfl hT hx (ea_cons (ev_name 1) (ea_cons (ev_cal (ok_made_code F TB) (hr.mono (by decide)) rfl hT hx (ea_cons (ev_name 0) (ea_cons (ev_name 2) ea_nil))) ea_nil))))))
theorem ok_run (F : Fx P w K mg cs tb) (TB : TBs cs base mg) : Cal P w K mg base ⟨tb, lm⟩ 6 "run" ["rooms", "yard", "code"] Lib.run_code := by
  obtain ⟨f, fd, D, hm⟩ := F.d_run
  exact ⟨f, fd, fn_run F TB D, hm, D.kp, D.bindsN fun _ _ _ _ _ _ us hl => match us, hl with | [_, _, _], _ => rfl⟩
theorem sc__law_both_right : FnScope ["_law_source", "_law_rooms", "_law_forest_here", "_law_target", "_law_number", "_law_row", "_law_code", "_law_journal", "_law_due", "_law_here", "_law_x", "_law_place", "_law_one_here"] ["_law_source", "_law_rooms", "_law_forest_here", "_law_target", "_law_number"] (defScope s__law_both_right) := ⟨rfl, rfl, rfl, by decide +kernel, rfl, by decide +kernel, by decide +kernel⟩
theorem fn__law_both_right (F : Fx P w K mg cs tb) (TB : TBs cs base mg) {f : Addr} {fd : FuncData} (D : FunS K "_law_both_right" "_law_both_right" s__law_both_right f fd) : FnD P w K mg base ⟨tb, lm⟩ 7 f fd ["_law_source", "_law_rooms", "_law_forest_here", "_law_target", "_law_number"] d__law_both_right := by
  have nd := sc__law_both_right.nd
  refine fn_okN (N := ["_law_source", "_law_rooms", "_law_forest_here", "_law_target", "_law_number", "_law_row", "_law_code", "_law_journal", "_law_due", "_law_here", "_law_x", "_law_place", "_law_one_here"]) (ps := ["_law_source", "_law_rooms", "_law_forest_here", "_law_target", "_law_number"]) D sc__law_both_right (fun T hT cdv A outer s H E hr hu tk hx ho => ?_)
  exact (ess_cons (es_set 5 nd (ev_cal (ok__law_laid F TB) (hr.mono (by decide)) rfl hT hx (ea_cons (ev_name 2) (ea_cons (ev_name 3) ea_nil))))
  (ess_cons (es_if (eb_w (ew_or (eb_ne hu (ev_repr hr rfl F.n_repr (ea_cons (ev_cal (ok_lay F TB) (hr.mono (by decide)) rfl hT hx (ea_cons (ev_name 1) (ea_cons (ev_name 2) (ea_cons (ev_name 3) ea_nil)))) ea_nil)) (ev_repr hr rfl F.n_repr (ea_cons (ev_tupC rfl F.n_tuple (ea_cons (ev_name 5) ea_nil)) ea_nil))) (ew_or1 (eb_ne hu (ev_cal (ok__law_done F TB) (hr.mono (by decide)) rfl hT hx (ea_cons (ev_name 2) (ea_cons (ev_name 5) ea_nil))) (ev_name 3))))) (ess_one (es_ret ev_bl)) ess_nil)
  (ess_cons (es_set 6 nd (ev_if (eb_ne hu (ev_name 5) (ev_lst ea_nil)) (ev_lstR (ea_cons (ev_tup (ea_cons ev_str (ea_cons (ev_add (ev_add (ev_strC rfl F.n_str (ea_cons (ev_name 4) ea_nil)) ev_str) (ev_sl (ev_cal (ok__law_base F TB) (hr.mono (by decide)) rfl hT hx (ea_cons (ev_name 3) ea_nil)) (eo_some ev_int) eo_none)) ea_nil))) ea_nil)) (ev_lstR ea_nil)))
  (ess_cons (es_for [10, 11] ho rfl (ei_seq (ev_name 5)) (eg_tup rfl (egs_cons (eg_name 10 nd) (egs_cons (eg_name 11 nd) egs_nil))) (ess_one (es_expr (ev_extend (ev_name 6) (ev_lst (ea_cons (ev_tup (ea_cons ev_str (ea_cons (ev_name 10) ea_nil))) (ea_cons (ev_tup (ea_cons ev_str (ea_cons (ev_name 11) ea_nil))) ea_nil)))))))
  (ess_cons (es_if (eb_ne hu (ev_name 5) (ev_lst ea_nil)) (ess_one (es_expr (ev_append (ev_name 6) (ev_tup (ea_cons ev_str (ea_cons (ev_add (ev_strC rfl F.n_str (ea_cons (ev_add (ev_name 4) ev_int) ea_nil)) ev_str) ea_nil)))))) ess_nil)
  (ess_cons (es_if (eb_ne hu (ev_repr hr rfl F.n_repr (ea_cons (ev_calK (okk_lay_code F TB) (hr.mono (by decide)) rfl hT hx (ek_cons (ev_name 1) (ek_cons (ev_name 2) (ek_cons (ev_name 3) (ek_cons (ev_name 4) ek_nil))))) ea_nil)) (ev_repr hr rfl F.n_repr (ea_cons (ev_tupC rfl F.n_tuple (ea_cons (ev_name 6) ea_nil)) ea_nil))) (ess_one (es_ret ev_bl)) ess_nil)
  (ess_cons (es_set 7 nd (ev_cal (ok__law_base F TB) (hr.mono (by decide)) rfl hT hx (ea_cons (ev_name 2) ea_nil)))
  (ess_cons (es_set 8 nd (ev_tup (ea_cons (ev_name 3) (ea_cons ev_non (ea_cons (ev_add (ev_name 7) (ev_join ev_str (ev_lc (own := [(("_law_one_here" : Str), 12)]) mLst_end rfl nd (ei_seq (ev_name 6)) (blkOk_by (by first | decide +kernel | rfl)) (fun D s H C cl fp => (egw_name 12 nd)) (fun D s H C cl fp => (ets_one (eb_eq hu (ev_ix hu (ev_name 12) ev_int) ev_str))) (fun D s H C cl fp => (ev_ix hu (ev_name 12) ev_int))))) ea_nil)))))
  (ess_cons (es_if (eb_ne hu (ev_repr hr rfl F.n_repr (ea_cons (ev_cal (ok_run F TB) (hr.mono (by decide)) rfl hT hx (ea_cons (ev_name 1) (ea_cons (ev_tup (ea_cons (ev_name 2) (ea_cons ev_non (ea_cons (ev_name 7) ea_nil)))) (ea_cons (ev_tupC rfl F.n_tuple (ea_cons (ev_name 6) ea_nil)) ea_nil)))) ea_nil)) (ev_repr hr rfl F.n_repr (ea_cons (ev_name 8) ea_nil))) (ess_one (es_ret ev_bl)) ess_nil)
  (ess_cons (es_set 9 nd (ev_cal (ok__law_done F TB) (hr.mono (by decide)) rfl hT hx (ea_cons (ev_name 2) (ea_cons (ev_sl (ev_name 5) eo_none (eo_some (ev_cal (ok__law_take F TB) (hr.mono (by decide)) rfl hT hx (ea_cons (ev_name 0) (ea_cons (ev_add (ev_len rfl F.n_len (ea_cons (ev_name 5) ea_nil)) ev_int) ea_nil))))) ea_nil))))
  (ess_one (es_ret (ev_eq hu (ev_repr hr rfl F.n_repr (ea_cons (ev_cal (ok_lay F TB) (hr.mono (by decide)) rfl hT hx (ea_cons (ev_name 1) (ea_cons (ev_name 9) (ea_cons (ev_name 3) ea_nil)))) ea_nil)) (ev_repr hr rfl F.n_repr (ea_cons (ev_tupC rfl F.n_tuple (ea_cons (ev_cal (ok__law_laid F TB) (hr.mono (by decide)) rfl hT hx (ea_cons (ev_name 9) (ea_cons (ev_name 3) ea_nil))) ea_nil)) ea_nil)))))))))))))))
theorem ok__law_both_right (F : Fx P w K mg cs tb) (TB : TBs cs base mg) : Cal P w K mg base ⟨tb, lm⟩ 7 "_law_both_right" ["_law_source", "_law_rooms", "_law_forest_here", "_law_target", "_law_number"] d__law_both_right := by
  obtain ⟨f, fd, D, hm⟩ := F.d__law_both_right
  exact ⟨f, fd, fn__law_both_right F TB D, hm, D.kp, D.bindsN fun _ _ _ _ _ _ us hl => match us, hl with | [_, _, _, _, _], _ => rfl⟩
theorem sc__law_changed : FnScope ["_law_source", "_law_rooms", "_law_forest_here", "_law_turn", "_law_x", "_law_some", "_law_y", "_law_place"] ["_law_source", "_law_rooms", "_law_forest_here"] (defScope s__law_changed) := ⟨rfl, rfl, rfl, by decide +kernel, rfl, by decide +kernel, by decide +kernel⟩
theorem fn__law_changed (F : Fx P w K mg cs tb) (TB : TBs cs base mg) {f : Addr} {fd : FuncData} (D : FunS K "_law_changed" "_law_changed" s__law_changed f fd) : FnD P w K mg base ⟨tb, lm⟩ 3 f fd ["_law_source", "_law_rooms", "_law_forest_here"] d__law_changed := by
  have nd := sc__law_changed.nd
  refine fn_okN (N := ["_law_source", "_law_rooms", "_law_forest_here", "_law_turn", "_law_x", "_law_some", "_law_y", "_law_place"]) (ps := ["_law_source", "_law_rooms", "_law_forest_here"]) D sc__law_changed (fun T hT cdv A outer s H E hr hu tk hx ho => ?_)
  exact (ess_cons (es_for [3, 4, 5, 6] ho rfl (ei_rg1 rfl F.n_range ev_int) (eg_name 3 nd) (ess_cons (es_set 4 nd (ev_cal (ok__law_take F TB) (hr.mono (by decide)) rfl hT hx (ea_cons (ev_name 0) (ea_cons (ev_len rfl F.n_len (ea_cons (ev_name 1) ea_nil)) ea_nil))))
  (ess_cons (es_set 2 nd (ev_cal (ok__law_hung F TB) (hr.mono (by decide)) rfl hT hx (ea_cons (ev_name 2) (ea_cons (ev_name 4) (ea_cons ev_non ea_nil)))))
  (ess_cons (by first | exact (es_setLc (own := [(("_law_y" : Str), 6)]) mLst_end rfl nd rfl rfl (sw_true rfl rfl rfl (by decide +kernel)) (ei_rg1 rfl F.n_range (ev_len rfl F.n_len (ea_cons (ev_name 1) ea_nil))) (blkOk_by (by first | decide +kernel | rfl)) (fun D s H C cl fp => (egw_name 6 nd)) (fun D s H C cl fp => (ets_one (eb_w (ew_and (eb_gt (ev_ix hu (ev_name 1) (ev_name 6)) ev_int) (ew_and1 (eb_ne hu (ev_name 6) (ev_name 4))))))) (fun D s H C cl fp => (ev_name 6))) | exact (es_set 5 nd (ev_lc (own := [(("_law_y" : Str), 6)]) mLst_end rfl nd (ei_rg1 rfl F.n_range (ev_len rfl F.n_len (ea_cons (ev_name 1) ea_nil))) (blkOk_by (by first | decide +kernel | rfl)) (fun D s H C cl fp => (egw_name 6 nd)) (fun D s H C cl fp => (ets_one (eb_w (ew_and (eb_gt (ev_ix hu (ev_name 1) (ev_name 6)) ev_int) (ew_and1 (eb_ne hu (ev_name 6) (ev_name 4))))))) (fun D s H C cl fp => (ev_name 6)))))
  (ess_cons (by first | exact (es_setLc (own := [(("_law_y" : Str), 6)]) mLst_end rfl nd rfl rfl (sw_true rfl rfl rfl (by decide +kernel)) (ei_seq (ev_name 5)) (blkOk_by (by first | decide +kernel | rfl)) (fun D s H C cl fp => (egw_name 6 nd)) (fun D s H C cl fp => (ets_one (eb_notIn hu (ev_name 4) (ev_lc (own := [(("_law_place" : Str), 7)]) mLst_end rfl nd (ei_seq (ev_cal (ok__law_climb F TB) (hr.mono (by decide)) rfl hT lets_never (ea_cons (ev_name 2) (ea_cons (ev_name 6) ea_nil)))) (blkOk_by (by first | decide +kernel | rfl)) (fun D s H C cl fp => (egw_name 7 nd)) (fun D s H C cl fp => ets_nil) (fun D s H C cl fp => (ev_ix hu (ev_name 7) ev_int)))))) (fun D s H C cl fp => (ev_name 6))) | exact (es_set 5 nd (ev_lc (own := [(("_law_y" : Str), 6)]) mLst_end rfl nd (ei_seq (ev_name 5)) (blkOk_by (by first | decide +kernel | rfl)) (fun D s H C cl fp => (egw_name 6 nd)) (fun D s H C cl fp => (ets_one (eb_notIn hu (ev_name 4) (ev_lc (own := [(("_law_place" : Str), 7)]) mLst_end rfl nd (ei_seq (ev_cal (ok__law_climb F TB) (hr.mono (by decide)) rfl hT lets_never (ea_cons (ev_name 2) (ea_cons (ev_name 6) ea_nil)))) (blkOk_by (by first | decide +kernel | rfl)) (fun D s H C cl fp => (egw_name 7 nd)) (fun D s H C cl fp => ets_nil) (fun D s H C cl fp => (ev_ix hu (ev_name 7) ev_int)))))) (fun D s H C cl fp => (ev_name 6)))))
  (ess_one (es_if (eb_w (ew_and (eb_ne hu (ev_name 5) (ev_lst ea_nil)) (ew_and1 (eb_eq hu (ev_cal (ok__law_take F TB) (hr.mono (by decide)) rfl hT hx (ea_cons (ev_name 0) (ea_cons ev_int ea_nil))) ev_int)))) (ess_cons (es_set 6 nd (ev_cal (ok__law_one F TB) (hr.mono (by decide)) rfl hT hx (ea_cons (ev_name 0) (ea_cons (ev_name 5) ea_nil))))
  (ess_one (es_set 2 nd (ev_cal (ok__law_hung F TB) (hr.mono (by decide)) rfl hT hx (ea_cons (ev_name 2) (ea_cons (ev_name 4) (ea_cons (ev_tup (ea_cons (ev_name 6) (ea_cons (ev_cal (ok__law_take F TB) (hr.mono (by decide)) rfl hT hx (ea_cons (ev_name 0) (ea_cons (ev_ix hu (ev_name 1) (ev_name 6)) ea_nil))) ea_nil))) ea_nil))))))) ess_nil)))))))
  (ess_one (es_ret (ev_name 2))))
theorem ok__law_changed (F : Fx P w K mg cs tb) (TB : TBs cs base mg) : Cal P w K mg base ⟨tb, lm⟩ 3 "_law_changed" ["_law_source", "_law_rooms", "_law_forest_here"] d__law_changed := by
  obtain ⟨f, fd, D, hm⟩ := F.d__law_changed
  exact ⟨f, fd, fn__law_changed F TB D, hm, D.kp, D.bindsN fun _ _ _ _ _ _ us hl => match us, hl with | [_, _, _], _ => rfl⟩
theorem sc_law : FnScope ["_law_script", "_law_source", "_law_many", "_law_rooms", "_law_forest_here", "_law_number", "_law_target", "_law_way", "_law_x"] ["_law_script"] (defScope s_law) := ⟨rfl, rfl, rfl, by decide +kernel, rfl, by decide +kernel, by decide +kernel⟩
theorem fn_law (F : Fx P w K mg cs tb) (TB : TBs cs base mg) {f : Addr} {fd : FuncData} (D : FunS K "law" "law" s_law f fd) : FnD P w K mg base ⟨tb, none⟩ 10 f fd ["_law_script"] d_law := by
  have nd := sc_law.nd
  refine fn_okN (N := ["_law_script", "_law_source", "_law_many", "_law_rooms", "_law_forest_here", "_law_number", "_law_target", "_law_way", "_law_x"]) (ps := ["_law_script"]) D sc_law (fun T hT cdv A outer s H E hr hu tk hx ho => ?_)
  exact (ess_cons (es_set 1 nd (ev_cal (ok__law_pool F TB) (hr.mono (by decide)) rfl hT hx (ea_cons (ev_name 0) (ea_cons ev_int ea_nil))))
  (ess_cons (es_set 2 nd (ev_cal (ok__law_one F TB) (hr.mono (by decide)) rfl hT hx (ea_cons (ev_name 1) (ea_cons (ev_lst (ea_cons ev_int (ea_cons ev_int (ea_cons ev_int (ea_cons ev_int (ea_cons ev_int (ea_cons ev_int (ea_cons ev_int (ea_cons (ev_add ev_int (ev_cal (ok__law_take F TB) (hr.mono (by decide)) rfl hT hx (ea_cons (ev_name 1) (ea_cons ev_int ea_nil)))) ea_nil))))))))) ea_nil))))
  (ess_cons (es_set 3 nd (ev_tupC rfl F.n_tuple (ea_cons (ev_lc (own := [(("_law_x" : Str), 8)]) mLst_end rfl nd (ei_rg1 rfl F.n_range (ev_name 2)) (blkOk_by (by first | decide +kernel | rfl)) (fun D s H C cl fp => (egw_name 8 nd)) (fun D s H C cl fp => ets_nil) (fun D s H C cl fp => (ev_cal (ok__law_one F TB) (hr.mono (by decide)) rfl hT lets_never (ea_cons (ev_name 1) (ea_cons (ev_lst (ea_cons ev_int (ea_cons ev_int (ea_cons ev_int (ea_cons ev_int (ea_cons ev_int (ea_cons ev_int ea_nil))))))) ea_nil))))) ea_nil)))
  (ess_cons (es_set 4 nd (ev_cal (ok__law_forest F TB) (hr.mono (by decide)) rfl hT hx (ea_cons (ev_name 1) (ea_cons (ev_name 3) ea_nil))))
  (ess_cons (es_set 5 nd (ev_add ev_int (ev_cal (ok__law_one F TB) (hr.mono (by decide)) rfl hT hx (ea_cons (ev_name 1) (ea_cons (ev_lst (ea_cons ev_int (ea_cons (ev_cal (ok__law_take F TB) (hr.mono (by decide)) rfl hT hx (ea_cons (ev_name 1) (ea_cons ev_int ea_nil))) (ea_cons (ev_cal (ok__law_take F TB) (hr.mono (by decide)) rfl hT hx (ea_cons (ev_name 1) (ea_cons (ev_pow ev_int ev_int) ea_nil))) ea_nil)))) ea_nil)))))
  (ess_cons (es_par 6 7 rfl nd (ea_cons (ev_cal (ok__law_forest F TB) (hr.mono (by decide)) rfl hT hx (ea_cons (ev_name 1) (ea_cons (ev_name 3) ea_nil))) (ea_cons (ev_cal (ok__law_take F TB) (hr.mono (by decide)) rfl hT hx (ea_cons (ev_name 1) (ea_cons ev_int ea_nil))) ea_nil)))
  (ess_cons (es_if (eb_eq hu (ev_name 7) ev_int) (ess_one (es_set 6 nd (ev_name 4))) (ess_one (es_if (eb_w (ew_and (eb_lt (ev_name 7) ev_int) (ew_and1 (eb_gt (ev_name 2) ev_int)))) (ess_one (es_set 6 nd (ev_cal (ok__law_changed F TB) (hr.mono (by decide)) rfl hT hx (ea_cons (ev_name 1) (ea_cons (ev_name 3) (ea_cons (ev_name 4) ea_nil)))))) ess_nil)))
  (ess_cons (es_if (eb_not (eb_truth (ev_cal (ok__law_both_right F TB) (hr.mono (by decide)) rfl hT hx (ea_cons (ev_name 1) (ea_cons (ev_name 3) (ea_cons (ev_name 4) (ea_cons (ev_name 6) (ea_cons (ev_name 5) ea_nil)))))))) (ess_one (es_ret ev_bl)) ess_nil)
  (ess_one (es_ret (ev_cal (ok__law_refusals_right F TB) (hr.mono (by decide)) rfl hT hx (ea_cons (ev_name 1) (ea_cons (ev_name 3) (ea_cons (ev_name 4) (ea_cons (ev_name 6) ea_nil)))))))))))))))
end
end K86
set_option maxHeartbeats 0
namespace K86
open PySem PySem.Spec PyProof.Rows L2 DN
theorem ob_eq (s : PySem.W.SharedT) : ob s = hk.obs s.abs := obsE_eq (v := iv) (HandSHeadRun.getT_eq s)
theorem init_cal {w : World} {K : PySem.W.Frag} {mg : Str → Option Value} {base : Heap} {fI D : Addr} (F : InitF PP K mg fI D (defArgs s_ini) (defBody s_ini) (defScope s_ini) "Refused.__init__") : ∃ fd, FnOk PP w K mg base (L2N.CX PP w) 1 fI fd ["self", "what"] (spIn K fI D) ∧ Binds K fd ["self", "what"] [] :=
  init_ok F (NdefX.nscope_by (by decide +kernel)) (by rfl) (by rfl) (fun _ _ _ _ _ us hl => match us, hl with | [_, _], _ => rfl) (by decide +kernel) (fun _ _ _ _ => ⟨_, rfl⟩) (fun _ _ _ _ => rfl) (fun _ _ _ _ => rfl) rfl
theorem fx {w : World} {K : PySem.W.Frag} {h : Heap} {mg : Str → Option Value} (X : K.In h) (G : h.Ns mainGlobals mg) (c : He.SaysX fa fn ts (tf.map (·.1)) ex w h K) (d : iniW K ini = iv) : Fx PP w K mg (csOf K (tf.map (·.1))) (tbOf K tf) where
  n_len := He.free_ok X G (c.t.d.fact 0 (f := .free "len") rfl)
  n_int := He.free_ok X G (c.t.d.fact 1 (f := .free "int") rfl)
  n_str := He.free_ok X G (c.t.d.fact 2 (f := .free "str") rfl)
  n_tuple := He.free_ok X G (c.t.d.fact 3 (f := .free "tuple") rfl)
  n_list := He.free_ok X G (c.t.d.fact 4 (f := .free "list") rfl)
  n_max := He.free_ok X G (c.t.d.fact 5 (f := .free "max") rfl)
  n_isinstance := He.free_ok X G (c.t.d.fact 6 (f := .free "isinstance") rfl)
  n_sorted := He.free_ok X G (c.t.d.fact 7 (f := .free "sorted") rfl)
  n_range := He.free_ok X G (c.t.d.fact 8 (f := .free "range") rfl)
  n_enumerate := He.free_ok X G (c.t.d.fact 9 (f := .free "enumerate") rfl)
  n_bool := He.free_ok X G (c.t.d.fact 10 (f := .free "bool") rfl)
  n_ValueError := He.free_ok X G (c.t.d.fact 11 (f := .free "ValueError") rfl)
  n_repr := He.free_ok X G (c.t.d.fact 12 (f := .free "repr") rfl)
  c_MOST_THINGS := He.int_ok X G (c.t.d.fact 13 (f := .int "MOST_THINGS" 24) rfl)
  c_MOST_ROOMS := He.int_ok X G (c.t.d.fact 14 (f := .int "MOST_ROOMS" 4) rfl)
  k_Refused := ⟨_, (He.glo_ok X G (c.t.d.fact 15 (f := .glo "Refused") rfl))⟩
  k_BadRooms := ⟨_, (He.glo_ok X G (c.t.d.fact 16 (f := .glo "BadRooms") rfl))⟩
  k_BadForest := ⟨_, (He.glo_ok X G (c.t.d.fact 17 (f := .glo "BadForest") rfl))⟩
  k_Ring := ⟨_, (He.glo_ok X G (c.t.d.fact 18 (f := .glo "Ring") rfl))⟩
  k_Within := ⟨_, (He.glo_ok X G (c.t.d.fact 19 (f := .glo "Within") rfl))⟩
  k_TooMany := ⟨_, (He.glo_ok X G (c.t.d.fact 20 (f := .glo "TooMany") rfl))⟩
  k_BadNumber := ⟨_, (He.glo_ok X G (c.t.d.fact 21 (f := .glo "BadNumber") rfl))⟩
  k_BadYard := ⟨_, (He.glo_ok X G (c.t.d.fact 22 (f := .glo "BadYard") rfl))⟩
  k_BadCode := ⟨_, (He.glo_ok X G (c.t.d.fact 23 (f := .glo "BadCode") rfl))⟩
  k_Hooked := ⟨_, (He.glo_ok X G (c.t.d.fact 24 (f := .glo "Hooked") rfl))⟩
  k_NoHook := ⟨_, (He.glo_ok X G (c.t.d.fact 25 (f := .glo "NoHook") rfl))⟩
  cls := clsT_ok (He.ba (He.ba (He.ba (He.ba (He.ba (He.ba (He.ba (He.ba (He.ba (He.ba (He.ba (He.ba c.more).1).1).1).1).1).1).1).1).1).1).1).1 (fun p hp => by simp only [cl, List.mem_cons, List.not_mem_nil, or_false] at hp; rcases hp with rfl | rfl | rfl | rfl | rfl | rfl | rfl | rfl | rfl | rfl | rfl; exact (He.glo_ok X G (c.t.d.fact 15 (f := .glo "Refused") rfl)); exact (He.glo_ok X G (c.t.d.fact 16 (f := .glo "BadRooms") rfl)); exact (He.glo_ok X G (c.t.d.fact 17 (f := .glo "BadForest") rfl)); exact (He.glo_ok X G (c.t.d.fact 18 (f := .glo "Ring") rfl)); exact (He.glo_ok X G (c.t.d.fact 19 (f := .glo "Within") rfl)); exact (He.glo_ok X G (c.t.d.fact 20 (f := .glo "TooMany") rfl)); exact (He.glo_ok X G (c.t.d.fact 21 (f := .glo "BadNumber") rfl)); exact (He.glo_ok X G (c.t.d.fact 22 (f := .glo "BadYard") rfl)); exact (He.glo_ok X G (c.t.d.fact 23 (f := .glo "BadCode") rfl)); exact (He.glo_ok X G (c.t.d.fact 24 (f := .glo "Hooked") rfl)); exact (He.glo_ok X G (c.t.d.fact 25 (f := .glo "NoHook") rfl))) (He.free_ok X G (c.t.d.fact 11 (f := .free "ValueError") rfl))
  x_BadRooms := fun base => have I := initF_ok d (He.ba (He.ba (He.ba (He.ba (He.ba (He.ba (He.ba (He.ba (He.ba (He.ba (He.ba (He.ba c.more).1).1).1).1).1).1).1).1).1).1).1).2 (He.free_ok X G (c.t.d.fact 26 (f := .free "super") rfl)); excCal_of (He.glo_ok X G (c.t.d.fact 16 (f := .glo "BadRooms") rfl)) (excB_ok (He.ba (He.ba (He.ba (He.ba (He.ba (He.ba (He.ba (He.ba (He.ba (He.ba (He.ba c.more).1).1).1).1).1).1).1).1).1).1).2) I.tF (init_cal I)
  x_BadForest := fun base => have I := initF_ok d (He.ba (He.ba (He.ba (He.ba (He.ba (He.ba (He.ba (He.ba (He.ba (He.ba (He.ba (He.ba c.more).1).1).1).1).1).1).1).1).1).1).1).2 (He.free_ok X G (c.t.d.fact 26 (f := .free "super") rfl)); excCal_of (He.glo_ok X G (c.t.d.fact 17 (f := .glo "BadForest") rfl)) (excB_ok (He.ba (He.ba (He.ba (He.ba (He.ba (He.ba (He.ba (He.ba (He.ba (He.ba c.more).1).1).1).1).1).1).1).1).1).2) I.tF (init_cal I)
  x_Ring := fun base => have I := initF_ok d (He.ba (He.ba (He.ba (He.ba (He.ba (He.ba (He.ba (He.ba (He.ba (He.ba (He.ba (He.ba c.more).1).1).1).1).1).1).1).1).1).1).1).2 (He.free_ok X G (c.t.d.fact 26 (f := .free "super") rfl)); excCal_of (He.glo_ok X G (c.t.d.fact 18 (f := .glo "Ring") rfl)) (excB_ok (He.ba (He.ba (He.ba (He.ba (He.ba (He.ba (He.ba (He.ba (He.ba c.more).1).1).1).1).1).1).1).1).2) I.tF (init_cal I)
  x_Within := fun base => have I := initF_ok d (He.ba (He.ba (He.ba (He.ba (He.ba (He.ba (He.ba (He.ba (He.ba (He.ba (He.ba (He.ba c.more).1).1).1).1).1).1).1).1).1).1).1).2 (He.free_ok X G (c.t.d.fact 26 (f := .free "super") rfl)); excCal_of (He.glo_ok X G (c.t.d.fact 19 (f := .glo "Within") rfl)) (excB_ok (He.ba (He.ba (He.ba (He.ba (He.ba (He.ba (He.ba (He.ba c.more).1).1).1).1).1).1).1).2) I.tF (init_cal I)
  x_TooMany := fun base => have I := initF_ok d (He.ba (He.ba (He.ba (He.ba (He.ba (He.ba (He.ba (He.ba (He.ba (He.ba (He.ba (He.ba c.more).1).1).1).1).1).1).1).1).1).1).1).2 (He.free_ok X G (c.t.d.fact 26 (f := .free "super") rfl)); excCal_of (He.glo_ok X G (c.t.d.fact 20 (f := .glo "TooMany") rfl)) (excB_ok (He.ba (He.ba (He.ba (He.ba (He.ba (He.ba (He.ba c.more).1).1).1).1).1).1).2) I.tF (init_cal I)
  x_BadNumber := fun base => have I := initF_ok d (He.ba (He.ba (He.ba (He.ba (He.ba (He.ba (He.ba (He.ba (He.ba (He.ba (He.ba (He.ba c.more).1).1).1).1).1).1).1).1).1).1).1).2 (He.free_ok X G (c.t.d.fact 26 (f := .free "super") rfl)); excCal_of (He.glo_ok X G (c.t.d.fact 21 (f := .glo "BadNumber") rfl)) (excB_ok (He.ba (He.ba (He.ba (He.ba (He.ba (He.ba c.more).1).1).1).1).1).2) I.tF (init_cal I)
  x_BadYard := fun base => have I := initF_ok d (He.ba (He.ba (He.ba (He.ba (He.ba (He.ba (He.ba (He.ba (He.ba (He.ba (He.ba (He.ba c.more).1).1).1).1).1).1).1).1).1).1).1).2 (He.free_ok X G (c.t.d.fact 26 (f := .free "super") rfl)); excCal_of (He.glo_ok X G (c.t.d.fact 22 (f := .glo "BadYard") rfl)) (excB_ok (He.ba (He.ba (He.ba (He.ba (He.ba c.more).1).1).1).1).2) I.tF (init_cal I)
  x_BadCode := fun base => have I := initF_ok d (He.ba (He.ba (He.ba (He.ba (He.ba (He.ba (He.ba (He.ba (He.ba (He.ba (He.ba (He.ba c.more).1).1).1).1).1).1).1).1).1).1).1).2 (He.free_ok X G (c.t.d.fact 26 (f := .free "super") rfl)); excCal_of (He.glo_ok X G (c.t.d.fact 23 (f := .glo "BadCode") rfl)) (excB_ok (He.ba (He.ba (He.ba (He.ba c.more).1).1).1).2) I.tF (init_cal I)
  x_Hooked := fun base => have I := initF_ok d (He.ba (He.ba (He.ba (He.ba (He.ba (He.ba (He.ba (He.ba (He.ba (He.ba (He.ba (He.ba c.more).1).1).1).1).1).1).1).1).1).1).1).2 (He.free_ok X G (c.t.d.fact 26 (f := .free "super") rfl)); excCal_of (He.glo_ok X G (c.t.d.fact 24 (f := .glo "Hooked") rfl)) (excB_ok (He.ba (He.ba (He.ba c.more).1).1).2) I.tF (init_cal I)
  x_NoHook := fun base => have I := initF_ok d (He.ba (He.ba (He.ba (He.ba (He.ba (He.ba (He.ba (He.ba (He.ba (He.ba (He.ba (He.ba c.more).1).1).1).1).1).1).1).1).1).1).1).2 (He.free_ok X G (c.t.d.fact 26 (f := .free "super") rfl)); excCal_of (He.glo_ok X G (c.t.d.fact 25 (f := .glo "NoHook") rfl)) (excB_ok (He.ba (He.ba c.more).1).2) I.tF (init_cal I)
  d__law_pool := by
    obtain ⟨fd, D⟩ := c.t.d.def_ 0 (d := dd__law_pool) rfl
    exact ⟨_, fd, D, He.glo_ok X G (c.t.d.fact 27 (f := .glo "_law_pool") rfl)⟩
  d__law_take := by
    obtain ⟨fd, D⟩ := c.t.d.def_ 1 (d := dd__law_take) rfl
    exact ⟨_, fd, D, He.glo_ok X G (c.t.d.fact 28 (f := .glo "_law_take") rfl)⟩
  d__law_one := by
    obtain ⟨fd, D⟩ := c.t.d.def_ 2 (d := dd__law_one) rfl
    exact ⟨_, fd, D, He.glo_ok X G (c.t.d.fact 29 (f := .glo "_law_one") rfl)⟩
  d__law_mixed := by
    obtain ⟨fd, D⟩ := c.t.d.def_ 3 (d := dd__law_mixed) rfl
    exact ⟨_, fd, D, He.glo_ok X G (c.t.d.fact 30 (f := .glo "_law_mixed") rfl)⟩
  d__law_chain := by
    obtain ⟨fd, D⟩ := c.t.d.def_ 4 (d := dd__law_chain) rfl
    exact ⟨_, fd, D, He.glo_ok X G (c.t.d.fact 31 (f := .glo "_law_chain") rfl)⟩
  d__law_grown := by
    obtain ⟨fd, D⟩ := c.t.d.def_ 5 (d := dd__law_grown) rfl
    exact ⟨_, fd, D, He.glo_ok X G (c.t.d.fact 32 (f := .glo "_law_grown") rfl)⟩
  d__law_forest := by
    obtain ⟨fd, D⟩ := c.t.d.def_ 6 (d := dd__law_forest) rfl
    exact ⟨_, fd, D, He.glo_ok X G (c.t.d.fact 33 (f := .glo "_law_forest") rfl)⟩
  d__law_hung := by
    obtain ⟨fd, D⟩ := c.t.d.def_ 7 (d := dd__law_hung) rfl
    exact ⟨_, fd, D, He.glo_ok X G (c.t.d.fact 34 (f := .glo "_law_hung") rfl)⟩
  d__law_heard := by
    obtain ⟨fd, D⟩ := c.t.d.def_ 8 (d := dd__law_heard) rfl
    exact ⟨_, fd, D, He.glo_ok X G (c.t.d.fact 35 (f := .glo "_law_heard") rfl)⟩
  d_is_whole := by
    obtain ⟨fd, D⟩ := c.t.d.def_ 9 (d := dd_is_whole) rfl
    exact ⟨_, fd, D, He.glo_ok X G (c.t.d.fact 36 (f := .glo "is_whole") rfl)⟩
  d_made_rooms := by
    obtain ⟨fd, D⟩ := c.t.d.def_ 10 (d := dd_made_rooms) rfl
    exact ⟨_, fd, D, He.glo_ok X G (c.t.d.fact 37 (f := .glo "made_rooms") rfl)⟩
  d_is_place := by
    obtain ⟨fd, D⟩ := c.t.d.def_ 11 (d := dd_is_place) rfl
    exact ⟨_, fd, D, He.glo_ok X G (c.t.d.fact 38 (f := .glo "is_place") rfl)⟩
  d_first_bad := by
    obtain ⟨fd, D⟩ := c.t.d.def_ 12 (d := dd_first_bad) rfl
    exact ⟨_, fd, D, He.glo_ok X G (c.t.d.fact 39 (f := .glo "first_bad") rfl)⟩
  d_lies_in_itself := by
    obtain ⟨fd, D⟩ := c.t.d.def_ 13 (d := dd_lies_in_itself) rfl
    exact ⟨_, fd, D, He.glo_ok X G (c.t.d.fact 40 (f := .glo "lies_in_itself") rfl)⟩
  d_first_ring := by
    obtain ⟨fd, D⟩ := c.t.d.def_ 14 (d := dd_first_ring) rfl
    exact ⟨_, fd, D, He.glo_ok X G (c.t.d.fact 41 (f := .glo "first_ring") rfl)⟩
  d_made_forest := by
    obtain ⟨fd, D⟩ := c.t.d.def_ 15 (d := dd_made_forest) rfl
    exact ⟨_, fd, D, He.glo_ok X G (c.t.d.fact 42 (f := .glo "made_forest") rfl)⟩
  d_around := by
    obtain ⟨fd, D⟩ := c.t.d.def_ 16 (d := dd_around) rfl
    exact ⟨_, fd, D, He.glo_ok X G (c.t.d.fact 43 (f := .glo "around") rfl)⟩
  d_lay_row := by
    obtain ⟨fd, D⟩ := c.t.d.def_ 17 (d := dd_lay_row) rfl
    exact ⟨_, fd, D, He.glo_ok X G (c.t.d.fact 44 (f := .glo "lay_row") rfl)⟩
  d_lay := by
    obtain ⟨fd, D⟩ := c.t.d.def_ 18 (d := dd_lay) rfl
    exact ⟨_, fd, D, He.glo_ok X G (c.t.d.fact 45 (f := .glo "lay") rfl)⟩
  d_want_number := by
    obtain ⟨fd, D⟩ := c.t.d.def_ 19 (d := dd_want_number) rfl
    exact ⟨_, fd, D, He.glo_ok X G (c.t.d.fact 46 (f := .glo "want_number") rfl)⟩
  d_hang_code := by
    obtain ⟨fd, D⟩ := c.t.d.def_ 20 (d := dd_hang_code) rfl
    exact ⟨_, fd, D, He.glo_ok X G (c.t.d.fact 47 (f := .glo "hang_code") rfl)⟩
  d_shut_text := by
    obtain ⟨fd, D⟩ := c.t.d.def_ 21 (d := dd_shut_text) rfl
    exact ⟨_, fd, D, He.glo_ok X G (c.t.d.fact 48 (f := .glo "shut_text") rfl)⟩
  d_framed := by
    obtain ⟨fd, D⟩ := c.t.d.def_ 22 (d := dd_framed) rfl
    exact ⟨_, fd, D, He.glo_ok X G (c.t.d.fact 49 (f := .glo "framed") rfl)⟩
  d_place_word := by
    obtain ⟨fd, D⟩ := c.t.d.def_ 23 (d := dd_place_word) rfl
    exact ⟨_, fd, D, He.glo_ok X G (c.t.d.fact 50 (f := .glo "place_word") rfl)⟩
  d_forest_words := by
    obtain ⟨fd, D⟩ := c.t.d.def_ 24 (d := dd_forest_words) rfl
    exact ⟨_, fd, D, He.glo_ok X G (c.t.d.fact 51 (f := .glo "forest_words") rfl)⟩
  d_lay_text := by
    obtain ⟨fd, D⟩ := c.t.d.def_ 25 (d := dd_lay_text) rfl
    exact ⟨_, fd, D, He.glo_ok X G (c.t.d.fact 52 (f := .glo "lay_text") rfl)⟩
  d_lay_code := by
    obtain ⟨fd, D⟩ := c.t.d.def_ 26 (d := dd_lay_code) rfl
    exact ⟨_, fd, D, He.glo_ok X G (c.t.d.fact 53 (f := .glo "lay_code") rfl)⟩
  d__law_refusals_right := by
    obtain ⟨fd, D⟩ := c.t.d.def_ 27 (d := dd__law_refusals_right) rfl
    exact mkD_of (tf := tf) (p := ("_law_refusals_right", none)) (q := qlam "_law_refusals_right" (defScope s__law_refusals_right)) D rfl (He.glo_ok X G (c.t.d.fact 54 (f := .glo "_law_refusals_right") rfl)) (by simp [tf]) (He.ba c.more).2
  d__law_climb := by
    obtain ⟨fd, D⟩ := c.t.d.def_ 28 (d := dd__law_climb) rfl
    exact ⟨_, fd, D, He.glo_ok X G (c.t.d.fact 55 (f := .glo "_law_climb") rfl)⟩
  d__law_laid := by
    obtain ⟨fd, D⟩ := c.t.d.def_ 29 (d := dd__law_laid) rfl
    exact ⟨_, fd, D, He.glo_ok X G (c.t.d.fact 56 (f := .glo "_law_laid") rfl)⟩
  d__law_spelled := by
    obtain ⟨fd, D⟩ := c.t.d.def_ 30 (d := dd__law_spelled) rfl
    exact ⟨_, fd, D, He.glo_ok X G (c.t.d.fact 57 (f := .glo "_law_spelled") rfl)⟩
  d__law_base := by
    obtain ⟨fd, D⟩ := c.t.d.def_ 31 (d := dd__law_base) rfl
    exact ⟨_, fd, D, He.glo_ok X G (c.t.d.fact 58 (f := .glo "_law_base") rfl)⟩
  d__law_done := by
    obtain ⟨fd, D⟩ := c.t.d.def_ 32 (d := dd__law_done) rfl
    exact ⟨_, fd, D, He.glo_ok X G (c.t.d.fact 59 (f := .glo "_law_done") rfl)⟩
  d_is_thing := by
    obtain ⟨fd, D⟩ := c.t.d.def_ 33 (d := dd_is_thing) rfl
    exact ⟨_, fd, D, He.glo_ok X G (c.t.d.fact 60 (f := .glo "is_thing") rfl)⟩
  d_is_hook := by
    obtain ⟨fd, D⟩ := c.t.d.def_ 34 (d := dd_is_hook) rfl
    exact ⟨_, fd, D, He.glo_ok X G (c.t.d.fact 61 (f := .glo "is_hook") rfl)⟩
  d_made_yard := by
    obtain ⟨fd, D⟩ := c.t.d.def_ 35 (d := dd_made_yard) rfl
    exact ⟨_, fd, D, He.glo_ok X G (c.t.d.fact 62 (f := .glo "made_yard") rfl)⟩
  d_put := by
    obtain ⟨fd, D⟩ := c.t.d.def_ 36 (d := dd_put) rfl
    exact ⟨_, fd, D, He.glo_ok X G (c.t.d.fact 63 (f := .glo "put") rfl)⟩
  d_lowered := by
    obtain ⟨fd, D⟩ := c.t.d.def_ 37 (d := dd_lowered) rfl
    exact ⟨_, fd, D, He.glo_ok X G (c.t.d.fact 64 (f := .glo "lowered") rfl)⟩
  d_stepped := by
    obtain ⟨fd, D⟩ := c.t.d.def_ 38 (d := dd_stepped) rfl
    exact ⟨_, fd, D, He.glo_ok X G (c.t.d.fact 65 (f := .glo "stepped") rfl)⟩
  d_all_stepped := by
    obtain ⟨fd, D⟩ := c.t.d.def_ 39 (d := dd_all_stepped) rfl
    exact ⟨_, fd, D, He.glo_ok X G (c.t.d.fact 66 (f := .glo "all_stepped") rfl)⟩
  d_is_code_row := by
    obtain ⟨fd, D⟩ := c.t.d.def_ 40 (d := dd_is_code_row) rfl
    exact ⟨_, fd, D, He.glo_ok X G (c.t.d.fact 67 (f := .glo "is_code_row") rfl)⟩
  d_made_code := by
    obtain ⟨fd, D⟩ := c.t.d.def_ 41 (d := dd_made_code) rfl
    exact ⟨_, fd, D, He.glo_ok X G (c.t.d.fact 68 (f := .glo "made_code") rfl)⟩
  d_run := by
    obtain ⟨fd, D⟩ := c.t.d.def_ 42 (d := dd_run) rfl
    exact ⟨_, fd, D, He.glo_ok X G (c.t.d.fact 69 (f := .glo "run") rfl)⟩
  d__law_both_right := by
    obtain ⟨fd, D⟩ := c.t.d.def_ 43 (d := dd__law_both_right) rfl
    exact ⟨_, fd, D, He.glo_ok X G (c.t.d.fact 70 (f := .glo "_law_both_right") rfl)⟩
  d__law_changed := by
    obtain ⟨fd, D⟩ := c.t.d.def_ 44 (d := dd__law_changed) rfl
    exact ⟨_, fd, D, He.glo_ok X G (c.t.d.fact 71 (f := .glo "_law_changed") rfl)⟩
  d_law := by
    obtain ⟨fd, D⟩ := c.t.d.def_ 45 (d := dd_law) rfl
    exact ⟨_, fd, D, He.glo_ok X G (c.t.d.fact 72 (f := .glo "law") rfl)⟩
theorem lawF {w : World} {K : PySem.W.Frag} {h : Heap} {mg : Str → Option Value} (X : K.In h) (G : h.Ns mainGlobals mg) (c : He.SaysX fa fn ts (tf.map (·.1)) ex w h K) (d : iniW K ini = iv) :
    ∃ (K : PySem.W.Frag) (fa : Addr) (fd : FuncData) (cs : List (Addr × Addr)) (tb : List (Addr × Str)), K.In h ∧ mg (HandSHeadRun.topDef (PySem.W.OpenLaw.row PySem.Challenge.rw_nestsay_k86_a_yard_laid_anew).prog 65).name = some (.ref fa) ∧ (∀ (s : Shared) (us : List Value), us.length = 1 → BindsTo s fd ⟨us, []⟩ (([("_law_script" : Str)]).zip us)) ∧
      (∀ p ∈ cs, h.get? p.2 = some { cls := .none, data := .fields #[] }) ∧ (∀ p ∈ cs, K.lookup p.2 = none) ∧ (∀ p ∈ cs, PySem.W.CodeHd h p.1 p.2) ∧ (∀ p ∈ tb, ∃ c, (c, p.1) ∈ cs) ∧
      ∀ base : Heap, (∀ p ∈ cs, LamX.TabB base mg p.1 p.2) → FnD PP w K mg base ⟨tb, none⟩ 10 fa fd ["_law_script"] d_law := by
  have F := fx X G c d
  obtain ⟨f, fd, D, hm⟩ := F.d_law
  have e : (HandSHeadRun.topDef (PySem.W.OpenLaw.row PySem.Challenge.rw_nestsay_k86_a_yard_laid_anew).prog 65).name = ("law" : Str) := by kernel_rfl
  obtain ⟨t1, t2, t3⟩ := tf_ok X c
  exact ⟨K, f, fd, _, tbOf K tf, X, by rw [e]; exact hm, fun s us hl => FunD.bindsA (ps := ["_law_script"]) D (fun _ _ _ _ _ _ us hl => match us, hl with | [_], _ => rfl) s us hl, t1, t2, t3, tb_cs, fun base TB => fn_law F TB D⟩
end K86
set_option maxHeartbeats 2000000
namespace Lib
open PySem PySem.Spec PyProof.Rows L2 DN
variable {Xp : EP}
theorem take_spec {Q : PV → Store → Prop} {st : Store} {s : Nat} {top : Int} (hs : SrcAt st s) (h0 : 0 < top) (h1 : top < B200) (q : ∀ i st', 0 ≤ i → i < top → Dr s st st' → Q (.int i) st') : (wpX Xp) (_law_take [.ref s, .int top] st) Q := by
  obtain ⟨a, b, e, ha, hb⟩ := hs
  have hlt : s < st.length := (List.getElem?_eq_some_iff.mp e).1
  simp only [B200_eq] at h1
  refine wp_dFn rfl ?_
  by_cases h : 0 < a
  · simp [wp_ixR e, h, h0, h1]
    have d : Dr s st (st.set s (.lst [.int (a / top), .int b])) := .inr ⟨_, _, Int.ediv_nonneg ha (Int.le_of_lt h0), hb, rfl⟩
    exact wp_setL e (j := 0) (by rfl) (Gc.dr0 (s := s) (by simp) d (q _ _ (Int.emod_nonneg _ (by omega)) (Int.emod_lt_of_pos _ h0) d))
  · simp [wp_ixR e, h]
    have hc : 0 ≤ (b * 39373 + 7) % 2147483647 ∧ (b * 39373 + 7) % 2147483647 < 2147483647 := ⟨Int.emod_nonneg _ (by omega), Int.emod_lt_of_pos _ (by omega)⟩
    generalize (b * 39373 + 7) % 2147483647 = c at hc
    refine wp_setL e (j := 1) (by rfl) ?_
    have e2 : (st.set s (.lst [.int a, .int c]))[s]? = some (.lst [.int a, .int c]) := by rw [List.getElem?_set_self hlt]
    simp [wp_ixR e2, h0]
    have d : Dr s st (st.set s (.lst [.int a, .int c])) := .inr ⟨_, _, ha, hc.1, rfl⟩
    exact ⟨by omega, Gc.dr0 (s := s) (by simp) d (q _ _ (Int.emod_nonneg _ (by omega)) (Int.emod_lt_of_pos _ h0) d)⟩
theorem toD0s_ints : ∀ ns : List Int, toD0s (ns.map PV.int) = some (ns.map PyData.int)
  | [] => by simp [toD0s]
  | n :: ns => by simp [toD0s, toD0, toD0s_ints ns]
theorem ints_shaped (ns : List Int) : SeqAt.shaped (.list (ns.map PyData.int)) = true := by
  have : PyData.canLayAll0 (ns.map PyData.int) = true ∧ PyData.depthAll (ns.map PyData.int) ≤ 0 := canLayAll_of fun d hd => by
    obtain ⟨i, _, rfl⟩ := List.mem_map.mp hd
    simp [PyData.canLay0, PyData.depth]
  refine shaped_of (by simpa [PyData.canLay0] using this.1) ?_
  simp only [PyData.depth]
  omega
theorem wp_neScr {Q : PV → Store → Prop} {st : Store} {ns : List Int} : (wpX Xp) (pNe (.scr (ns.map PV.int)) (.lst []) st) Q = Q (.bl (!decide (ns = []))) st := by
  have h1 : toD (.scr (ns.map PV.int)) st = some (.list (ns.map PyData.int)) := by simp [toD, toD0, toD0s_ints]
  have h2 : toD (.lst []) st = some (.list []) := by simp [toD, toD0, toD0s]
  have h3 := ints_shaped ns
  have h4 := ints_shaped []
  simp only [List.map_nil] at h4
  have h5 : PyData.eqv (.list (ns.map PyData.int)) (.list []) = decide (ns = []) := by cases ns <;> simp [PyData.eqv, PyData.eqvAll]
  simp only [pNe, pEqB, h1, h2, h3, h4, h5, and_self, if_true, Res.bind, wp_ok]
theorem pool_spec {Q : PV → Store → Prop} {st : Store} {ns : List Int} {k : Int} (hk : 0 ≤ k) (hk2 : k < 1000) (q : ∀ a b : Int, 0 ≤ a → 0 ≤ b → Q (.ref st.length) (st ++ [.lst [.int a, .int b]])) : (wpX Xp) (_law_pool [.scr (ns.map PV.int), .int k] st) Q := by
  refine wp_dFnK rfl ?_
  have b1 : (-18446744073709551616 < k ∧ k < 18446744073709551616) := by omega
  have m0 : ∀ (p : Prop) [Decidable p], (if p then (1 : Int) else 0) ≥ 0 ∧ (if p then (1 : Int) else 0) < 2 := fun p _ => by split <;> omega
  have x0 : ∀ c : Int, 0 ≤ (if c < -1 - c then -1 - c else c) := fun c => by split <;> omega
  by_cases h : k < (ns.length : Int)
  · obtain ⟨v, e, hv, _⟩ := atI_some (l := ns.map PV.int) hk (by simpa using h)
    obtain ⟨c, _, rfl⟩ := List.mem_map.mp hv
    simp [h, e, b1]
    exact ⟨fun _ => q _ _ (x0 c) (Int.emod_nonneg _ (by omega)), fun _ => q _ _ (by omega) (Int.emod_nonneg _ (by omega))⟩
  · by_cases h2 : ns = []
    · subst h2
      have h3 : ¬ (k < 0) := by omega
      have w := fun (Q : PV → Store → Prop) => wp_neScr (Xp := Xp) (Q := Q) (st := st) (ns := [])
      simp only [List.map_nil] at w
      simp [h3, b1, w]
      exact q _ _ (by omega) (Int.emod_nonneg _ (by omega))
    · obtain ⟨c, r, rfl⟩ := List.exists_cons_of_ne_nil h2
      have w := fun (Q : PV → Store → Prop) => wp_neScr (Xp := Xp) (Q := Q) (st := st) (ns := c :: r)
      simp only [List.map_cons] at w
      have h' : ¬ (k < (r.length : Int) + 1) := by simpa using h
      simp [h', b1, w]
      exact ⟨fun _ => q _ _ (by omega) (Int.emod_nonneg _ (by omega)), fun _ => q _ _ (by omega) (Int.emod_nonneg _ (by omega))⟩
theorem one_spec {Q : PV → Store → Prop} {st : Store} {s : Nat} {l : List PV} (hs : SrcAt st s) (h0 : l ≠ []) (h1 : l.length ≤ SZ) (hc : cls l = true) (q : ∀ v st', v ∈ l → Dr s st st' → Q v st') : (wpX Xp) (_law_one [.ref s, .lst l] st) Q := by
  refine wp_dFn rfl ?_
  have hl : 0 < l.length := List.length_pos_iff.mpr h0
  simp only [SZ_lit] at h1
  simp
  refine take_spec hs (by omega) (by simp only [B200_eq]; omega) fun i st' h2 h3 hd => ?_
  obtain ⟨v, e, hv, _⟩ := atI_some (l := l) h2 h3
  simp [e]
  exact Gc.dr0 (s := s) (cls_iff.mp hc v hv) hd (q v st' hv hd)
end Lib
namespace Lib
open PySem PySem.Spec PyProof.Rows L2 DN
variable {Xp : EP}
abbrev Pl := Option (Nat × Nat)
def nv (n : Nat) : PV := .int n
def rv (R : List Nat) : PV := .tup (R.map nv)
def pp (h : Nat × Nat) : PV := .tup [.int h.1, .int h.2]
def pv : Pl → PV
  | none => .non
  | some h => pp h
@[simp] theorem isNon_pp {h : Nat × Nat} : DN.isNon (pp h) = false := rfl
@[simp] theorem isNon_pvS {h : Nat × Nat} : DN.isNon (pv (some h)) = false := rfl
@[simp] theorem isNon_pvN : DN.isNon (pv none) = true := rfl
def fv (F : List Pl) : PV := .tup (F.map pv)
def up (F : List Pl) (x : Nat) : Pl := (F[x]?).getD none
def clb (F : List Pl) : Nat → Pl → List (Nat × Nat)
  | 0, _ => []
  | _ + 1, none => []
  | k + 1, some h => h :: clb F k (up F h.1)
def Wf (F : List Pl) : Prop := ∀ p, some p ∈ F → p.1 < F.length
theorem up_mem {F : List Pl} {x : Nat} {h : Nat × Nat} (e : up F x = some h) : some h ∈ F := by
  unfold up at e
  cases q : F[x]? with
  | none => rw [q] at e; cases e
  | some p => rw [q] at e; simp at e; subst e; exact List.mem_of_getElem? q
theorem atI_map {α β : Type} {f : α → β} {l : List α} {i : Nat} (h : i < l.length) : atI (l.map f) (i : Int) = some (f l[i]) := by
  rw [atI_int (by omega) (by simpa using h)]
  simp [h]
theorem atI_fv {F : List Pl} {x : Nat} (h : x < F.length) : atI (F.map pv) (x : Int) = some (pv (up F x)) := by
  rw [atI_map h]
  simp [up, h]
def rm (R : List Nat) (x : Nat) : Nat := (R[x]?).getD 0
theorem atI_rv {R : List Nat} {x : Nat} (h : x < R.length) : atI (R.map nv) (x : Int) = some (.int (rm R x)) := by
  rw [atI_map h]
  simp [rm, h, nv]
section
variable {Q : PV → Store → Prop} {st : Store} {F : List Pl} {R : List Nat} {x y : Nat}
theorem rgN {n : Nat} (h : n ≤ 1000) : rgOk (n : Int) = true := rgOk_small (by omega) (by omega)
theorem cls_pp (l : List (Nat × Nat)) : cls (l.map pp) = true := cls_iff.mpr fun p hp => by
  obtain ⟨h, _, rfl⟩ := List.mem_map.mp hp
  simp [pp]
theorem climb_spec (hw : Wf F) (hx : x < F.length) (hz : F.length ≤ 1000) (q : Q (.lst ((clb F F.length (up F x)).map pp)) st) : (wpX Xp) (_law_climb [fv F, .int x] st) Q := by
  refine wp_fn ?_
  simp [fv, atI_fv hx, rgN hz]
  refine wps_forRo (fun i σ st' => ∃ (k : Nat) (p : Pl) (acc : List (Nat × Nat)), i = (F.length : Int) - k ∧ k ≤ F.length ∧ σ = [some (fv F), some (.int x), none, some (.ref st.length), some (pv p)] ∧ st' = st ++ [.lst (acc.map pp)] ∧ acc ++ clb F k p = clb F F.length (up F x) ∧ acc.length + k = F.length ∧ (p ∈ F ∨ p = none)) ?_ ?_ ?_
  · rintro I hI i σ st' ⟨k, p, acc, rfl, hk, rfl, rfl, e, hl, hp⟩ hi
    obtain ⟨k, rfl⟩ : ∃ m, k = m + 1 := ⟨k - 1, by omega⟩
    simp
    cases p with
    | none =>
      simp [clb] at e
      simp [pv, wipeA]
      exact Gc.lstP (junk := [.lst (acc.map pp)]) (n := st.length) (l := acc.map pp) (cls_pp _) rfl (Nat.le_refl _) (by simp) (by rw [e]; exact q)
    | some h =>
      have hh := hw h (hp.resolve_right (by simp))
      simp [pv]
      refine ⟨isL_ref (l := acc.map pp) (by simp), wp_append (l := acc.map pp) (by simp) (by simp only [List.length_map, SZ_lit]; omega) ?_⟩
      simp [pp, fv, atI_fv hh, wipeA]
      refine hI _ _ _ ⟨k, up F h.1, acc ++ [h], by omega, by omega, rfl, by simp [pp], by rw [← e]; simp [clb], by simp; omega, ?_⟩
      cases q : up F h.1 with
      | none => exact .inr rfl
      | some h' => exact .inl (up_mem q)
  · rintro i σ st' ⟨k, p, acc, rfl, hk, rfl, rfl, e, hl, hp⟩ hi
    have : k = 0 := by omega
    subst this
    simp [clb] at e
    simp [wipeA]
    exact Gc.lstP (junk := [.lst (acc.map pp)]) (n := st.length) (l := acc.map pp) (cls_pp _) rfl (Nat.le_refl _) (by simp) (by rw [e]; exact q)
  · refine ⟨F.length, up F x, [], by omega, by omega, rfl, rfl, rfl, by simp, ?_⟩
    cases q : up F x with
    | none => exact .inr rfl
    | some h' => exact .inl (up_mem q)
inductive Sd where
  | ap | inn (r : Nat) | aro (r : Nat)
  deriving DecidableEq
def sv : Sd → PV
  | .ap => .tup [.str ("apart" : Str), .int 0]
  | .inn r => .tup [.str ("in" : Str), .int r]
  | .aro r => .tup [.str ("around" : Str), .int r]
def std (F : List Pl) (x y : Nat) : Sd := match (clb F F.length (up F x)).find? fun h => decide (h.1 = y) with
  | some h => .inn h.2
  | none => match (clb F F.length (up F y)).find? fun h => decide (h.1 = x) with
    | some h => .aro h.2
    | none => .ap
theorem cl_sv {s : Sd} : cl (sv s) = true := by cases s <;> simp [sv]
end
end Lib
namespace Lib
open PySem PySem.Spec PyProof.Rows L2 DN
variable {Xp : EP}
section
variable {Q : PV → Store → Prop} {st : Store} {F : List Pl} {R : List Nat} {x y : Nat} {p : PV}
def isWh : PV → Bool
  | .int _ => true
  | _ => false
theorem whole_spec (hp : dab 20 p = true) (q : Q (.bl (isWh p)) st) : (wpX Xp) (is_whole [p] st) Q := by
  refine wp_fn ?_
  simp [wp_isInt hp, wp_isBool hp]
  cases p <;> simp [isIn, isBo, isWh] at * <;> exact Gc.same (by simp) q
def nmB (m : Int) : PV → Bool
  | .int i => decide (0 ≤ i) && decide (i < m)
  | _ => false
def plB (R : List Nat) (x : Nat) : PV → Bool
  | .non => true
  | .tup [.int h, .int r] => decide (0 ≤ h) && (decide (h < R.length) && (!decide (h = x) && (decide (0 ≤ r) && decide (r < rm R h.toNat))))
  | _ => false
theorem atI_rvI {h : Int} (h0 : 0 ≤ h) (h1 : h < R.length) : atI (R.map nv) h = some (.int (rm R h.toNat)) := by
  have := atI_rv (R := R) (x := h.toNat) (by omega)
  rwa [show ((h.toNat : Nat) : Int) = h by omega] at this
theorem place_spec (hp : dab 20 p = true) (q : Q (.bl (plB R x p)) st) : (wpX Xp) (is_place [rv R, .int x, p] st) Q := by
  refine wp_fn ?_
  cases p with
  | non => simp; exact Gc.same (by simp) q
  | tup l =>
    match l with
    | [] => simp [wp_isTup hp, isTp]; exact Gc.same (by simp) q
    | [a] => simp [wp_isTup hp, isTp]; exact Gc.same (by simp) (by cases a <;> exact q)
    | a :: b :: c :: l => simp [wp_isTup hp, isTp]; rw [cnd_neg (by simp; omega)]; exact Gc.same (by simp) (by cases a <;> cases b <;> exact q)
    | [a, b] =>
      have ha : dab 20 a = true := dab_mono (n := 19) (by omega) (by simp [dab] at hp; exact hp.1)
      have hb : dab 20 b = true := dab_mono (n := 19) (by omega) (by simp [dab] at hp; exact hp.2)
      simp [wp_isTup hp, isTp]
      refine whole_spec ha ?_
      simp
      cases a with
      | int h =>
        simp [isWh]
        refine whole_spec hb ?_
        simp
        cases b with
        | int r =>
          simp [isWh, rv]
          by_cases h0 : 0 ≤ h
          · by_cases h1 : h < R.length
            · by_cases h2 : h = x
              · subst h2
                have h1' : x < R.length := by omega
                simp [h1']
                exact Gc.same (by simp) (by simpa [plB, h1'] using q)
              · simp [h0, h1, h2, atI_rvI h0 h1]
                by_cases h3 : 0 ≤ r
                · simp [h3]
                  exact Gc.same (by simp) (by simpa [plB, h0, h1, h2, h3] using q)
                · simp [h3]
                  exact Gc.same (by simp) (by simpa [plB, h0, h1, h2, h3] using q)
            · simp [h0, h1]
              exact Gc.same (by simp) (by simpa [plB, h0, h1] using q)
          · simp [h0]
            exact Gc.same (by simp) (by simpa [plB, h0] using q)
        | _ => simp [isWh]; exact Gc.same (by simp) q
      | _ => simp [isWh]; exact Gc.same (by simp) (by cases b <;> exact q)
  | _ => first | (simp [dab] at hp; done) | (simp [wp_isTup hp, isTp]; exact Gc.same (by simp) q)
def fb (R : List Nat) : Nat → List PV → Option Nat
  | _, [] => none
  | i, p :: r => if plB R i p then fb R (i + 1) r else some i
def ov : Option Nat → PV
  | none => .non
  | some i => .int i
theorem cl_ov {o : Option Nat} : cl (ov o) = true := by cases o <;> simp [ov]
theorem first_bad_spec {l : List PV} (hl : ∀ p ∈ l, dab 20 p = true) (q : Q (ov (fb R 0 l)) st) : (wpX Xp) (first_bad [rv R, .tup l] st) Q := by
  refine wp_fn ?_
  simp
  refine wps_forLo (fun m σ st' => ∃ i r, m = DN.numbered i r ∧ σ = [some (rv R), some (.tup l), none, none] ∧ st = st' ∧ (∀ p ∈ r, p ∈ l) ∧ fb R 0 l = fb R i r) _ ?_ ?_ ⟨0, l, rfl, rfl, rfl, fun _ h => h, rfl⟩
  · rintro I hI p m σ st' ⟨i, r, e, rfl, rfl, hm, e2⟩
    cases r with
    | nil => cases e
    | cons a r =>
      simp only [DN.numbered, List.cons.injEq] at e
      obtain ⟨rfl, rfl⟩ := e
      simp
      refine place_spec (hl _ (hm _ List.mem_cons_self)) ?_
      simp
      cases h : plB R i a with
      | false =>
        simp
        exact Gc.same (by simp) (by simpa [e2, fb, h, ov] using q)
      | true =>
        simp [wipeA]
        exact hI _ _ _ ⟨_, _, rfl, rfl, rfl, fun p hp => hm p (List.mem_cons_of_mem _ hp), by rw [e2]; simp [fb, h]⟩
  · rintro σ st' ⟨i, r, e, rfl, rfl, hm, e2⟩
    cases r with
    | nil =>
      try simp [wipeA]
      exact Gc.same (by simp) (by simpa [e2, fb, ov] using q)
    | cons a r => cases e
def inIt (F : List Pl) (x : Nat) : Bool := (clb F F.length (up F x)).any fun h => decide (h.1 = x)
theorem lies_spec (hw : Wf F) (hx : x < F.length) (hz : F.length ≤ 1000) (q : Q (.bl (inIt F x)) st) : (wpX Xp) (lies_in_itself [fv F, .int x] st) Q := by
  refine wp_fn ?_
  simp [fv, rgN hz]
  refine wps_forRo (fun i σ st' => ∃ (k h : Nat), i = (F.length : Int) - k ∧ k ≤ F.length ∧ σ = [some (fv F), some (.int x), some (.int h), none] ∧ st = st' ∧ h < F.length ∧ inIt F x = (clb F k (up F h)).any fun h => decide (h.1 = x)) ?_ ?_ ?_
  · rintro I hI i σ st' ⟨k, h, rfl, hk, rfl, rfl, hh, e⟩ hi
    obtain ⟨k, rfl⟩ : ∃ m, k = m + 1 := ⟨k - 1, by omega⟩
    simp [fv, atI_fv hh]
    cases u : up F h with
    | none =>
      simp
      exact Gc.same (by simp) (by simpa [e, u, clb] using q)
    | some g =>
      have hg := hw g (up_mem u)
      simp
      simp [pv, pp]
      by_cases z : g.1 = x
      · simp [z]
        exact Gc.same (by simp) (by simpa [e, u, clb, z] using q)
      · rw [cnd_neg (decide_eq_false (by omega))]
        simp [wipeA]
        exact hI _ _ _ ⟨k, g.1, by omega, by omega, rfl, rfl, hg, by rw [e, u]; simp [clb, z]⟩
  · rintro i σ st' ⟨k, h, rfl, hk, rfl, rfl, hh, e⟩ hi
    have : k = 0 := by omega
    subst this
    try simp [wipeA]
    exact Gc.same (by simp) (by simpa [e, clb] using q)
  · exact ⟨F.length, x, by omega, by omega, rfl, rfl, hx, rfl⟩
def fr (F : List Pl) : Nat → Nat → Option Nat
  | 0, _ => none
  | k + 1, i => if inIt F i then some i else fr F k (i + 1)
theorem first_ring_spec (hw : Wf F) (hz : F.length ≤ 1000) (q : Q (ov (fr F F.length 0)) st) : (wpX Xp) (first_ring [fv F] st) Q := by
  refine wp_fn ?_
  simp [fv, rgN hz]
  refine wps_forRo (fun i σ st' => ∃ (k h : Nat), i = (h : Int) ∧ k + h = F.length ∧ σ = [some (fv F), none] ∧ st = st' ∧ fr F F.length 0 = fr F k h) ?_ ?_ ?_
  · rintro I hI i σ st' ⟨k, h, rfl, hk, rfl, rfl, e⟩ hi
    obtain ⟨k, rfl⟩ : ∃ m, k = m + 1 := ⟨k - 1, by omega⟩
    simp
    refine lies_spec hw (by omega) hz ?_
    simp
    cases z : inIt F h with
    | true =>
      simp
      exact Gc.same (by simp) (by simpa [e, fr, z, ov] using q)
    | false =>
      simp [wipeA]
      exact hI _ _ _ ⟨k, h + 1, by omega, by omega, rfl, rfl, by rw [e]; simp [fr, z]⟩
  · rintro i σ st' ⟨k, h, rfl, hk, rfl, rfl, e⟩ hi
    have : k = 0 := by omega
    subst this
    try simp [wipeA]
    exact Gc.same (by simp) (by simpa [e, fr, ov] using q)
  · exact ⟨F.length, 0, rfl, by omega, rfl, rfl, rfl⟩
end
end Lib
namespace Lib
open PySem PySem.Spec PyProof.Rows L2 DN
variable {Xp : EP}
section
variable {Q : PV → Store → Prop} {st : Store} {F : List Pl} {R : List Nat} {x y : Nat} {p f : PV}
def okR (R : List Nat) : Prop := R.length ≤ 24 ∧ ∀ r ∈ R, r ≤ 4
def okF (R : List Nat) (F : List Pl) : Prop := F.length = R.length ∧ ∀ x, x < F.length → ∀ h, up F x = some h → h.1 < R.length ∧ h.1 ≠ x ∧ h.2 < rm R h.1
theorem okF.wf (h : okF R F) : Wf F := fun p hp => by
  obtain ⟨i, hi, e⟩ := List.mem_iff_getElem.mp hp
  have := h.2 i hi p (by simp [up, hi, e])
  rw [h.1]
  exact this.1
theorem dab_rv {n : Nat} : dab (n + 1) (rv R) = true := by
  cases n <;> simp [rv, dab, nv]
theorem plB_pv {q : Pl} (h : ∀ h, q = some h → h.1 < R.length ∧ h.1 ≠ x ∧ h.2 < rm R h.1) : plB R x (pv q) = true := by
  cases q with
  | none => rfl
  | some g =>
    obtain ⟨h1, h2, h3⟩ := h g rfl
    simp [pv, pp, plB]
    omega
theorem plB_of (h : plB R x p = true) : ∃ q : Pl, p = pv q ∧ ∀ h, q = some h → h.1 < R.length ∧ h.1 ≠ x ∧ h.2 < rm R h.1 := by
  unfold plB at h
  split at h
  · exact ⟨none, rfl, fun _ h => by cases h⟩
  · rename_i a b
    simp only [Bool.and_eq_true, decide_eq_true_eq, Bool.not_eq_true', decide_eq_false_iff_not] at h
    refine ⟨some (a.toNat, b.toNat), ?_, fun g hg => ?_⟩
    · simp only [pv, pp]
      rw [show ((a.toNat : Nat) : Int) = a by omega, show ((b.toNat : Nat) : Int) = b by omega]
    · cases hg
      simp only
      omega
  · cases h
theorem fb_none : ∀ {l : List PV} {i : Nat}, fb R i l = none ↔ ∀ j (h : j < l.length), plB R (i + j) l[j] = true
  | [], i => by simp [fb]
  | p :: l, i => by
    unfold fb
    cases h : plB R i p with
    | true =>
      rw [if_pos rfl, fb_none (l := l)]
      constructor
      · intro z j hj
        cases j with
        | zero => simpa using h
        | succ j => have := z j (by simpa using hj); rw [show i + (j + 1) = i + 1 + j by omega]; simpa using this
      · intro z j hj
        have := z (j + 1) (by simpa using hj)
        rw [show i + 1 + j = i + (j + 1) by omega]; simpa using this
    | false =>
      simp
      refine ⟨0, by omega, ?_⟩
      simpa using h
theorem fb_forest {l : List PV} (h : fb R 0 l = none) (hl : l.length = R.length) : ∃ F, l = F.map pv ∧ okF R F := by
  rw [fb_none] at h
  have key : ∀ (l : List PV) (i : Nat), (∀ j (h : j < l.length), plB R (i + j) l[j] = true) → ∃ F : List Pl, l = F.map pv ∧ ∀ j, j < F.length → ∀ h, up F j = some h → h.1 < R.length ∧ h.1 ≠ i + j ∧ h.2 < rm R h.1 := by
    intro l
    induction l with
    | nil => intro i _; exact ⟨[], rfl, fun j hj => by simp at hj⟩
    | cons p l ih =>
      intro i h
      obtain ⟨F, e, hF⟩ := ih (i + 1) fun j hj => by
        have := h (j + 1) (by simpa using hj)
        rw [show i + 1 + j = i + (j + 1) by omega]; simpa using this
      obtain ⟨q, rfl, hq⟩ := plB_of (x := i) (by simpa using h 0 (by simp))
      refine ⟨q :: F, by simp [e], fun j hj g hg => ?_⟩
      cases j with
      | zero => exact hq g (by simpa [up] using hg)
      | succ j =>
        have := hF j (by simpa using hj) g (by simpa [up] using hg)
        rwa [show i + 1 + j = i + (j + 1) by omega] at this
  obtain ⟨F, e, hF⟩ := key l 0 h
  refine ⟨F, e, by rw [← hl, e]; simp, fun x hx h hh => ?_⟩
  have := hF x hx h hh
  simpa using this
theorem fb_ok (h : okF R F) : fb R 0 (F.map pv) = none := by
  rw [fb_none]
  intro j hj
  have hj' : j < F.length := by simpa using hj
  have e : (F.map pv)[j] = pv (up F j) := by simp [up, hj']
  rw [e]
  exact plB_pv fun g hg => by simpa using h.2 j hj' g hg
theorem fr_none : ∀ {k i : Nat}, fr F k i = none ↔ ∀ j, j < k → inIt F (i + j) = false
  | 0, i => by simp [fr]
  | k + 1, i => by
    unfold fr
    cases h : inIt F i with
    | true =>
      simp
      exact ⟨0, by omega, by simpa using h⟩
    | false =>
      rw [if_neg (by simp), fr_none (k := k)]
      constructor
      · intro z j hj
        cases j with
        | zero => simpa using h
        | succ j => rw [show i + (j + 1) = i + 1 + j by omega]; exact z j (by omega)
      · intro z j hj
        rw [show i + 1 + j = i + (j + 1) by omega]; exact z (j + 1) (by omega)
theorem map_pv_inj {F G : List Pl} (h : F.map pv = G.map pv) : F = G := by
  have inj : ∀ a b : Pl, pv a = pv b → a = b := by
    intro a b h
    cases a with
    | none => cases b with
      | none => rfl
      | some b => cases h
    | some a => cases b with
      | none => cases h
      | some b =>
        simp only [pv, pp, PV.tup.injEq, List.cons.injEq, PV.int.injEq, and_true] at h
        obtain ⟨a1, a2⟩ := a
        obtain ⟨b1, b2⟩ := b
        simp only at h
        have h1 : a1 = b1 := by omega
        have h2 : a2 = b2 := by omega
        rw [h1, h2]
  exact (List.map_inj_right inj).mp h
theorem fv_inj {F G : List Pl} (h : fv F = fv G) : F = G := map_pv_inj (by simpa [fv] using h)
@[simp] theorem isNon_ov {o : Option Nat} : DN.isNon (ov o) = o.isNone := by cases o <;> rfl
theorem clb_len : ∀ (k : Nat) (p : Pl), (clb F k p).length ≤ k
  | 0, _ => by simp [clb]
  | k + 1, none => by simp [clb]
  | k + 1, some h => by simp [clb, clb_len k (up F h.1)]
end
end Lib
namespace Lib
open PySem PySem.Spec PyProof.Rows L2 DN
variable {Xp : EP}
section
variable {Q : PV → Store → Prop} {st : Store} {F : List Pl} {R : List Nat} {x y : Nat} {p f : PV}
def noR (F : List Pl) : Prop := ∀ x, x < F.length → inIt F x = false
def ends (F : List Pl) : Nat → Pl → Prop
  | _, none => True
  | 0, some _ => False
  | k + 1, some h => ends F k (up F h.1)
theorem clb_sub : ∀ {k m : Nat} {p : Pl}, k ≤ m → ∀ h ∈ clb F k p, h ∈ clb F m p
  | 0, _, _, _, _, h => by simp [clb] at h
  | k + 1, 0, _, z, _, _ => by omega
  | k + 1, m + 1, none, _, _, h => by simp [clb] at h
  | k + 1, m + 1, some g, z, a, h => by
    simp only [clb, List.mem_cons] at h ⊢
    exact h.imp id (clb_sub (by omega) a)
theorem nodes_nodup (hw : Wf F) (hn : noR F) : ∀ (k : Nat) (x : Nat), k ≤ F.length → x < F.length → (x :: (clb F k (up F x)).map (·.1)).Nodup
  | 0, x, _, _ => by simp [clb]
  | k + 1, x, hk, hx => by
    cases u : up F x with
    | none => simp [clb]
    | some h =>
      have ih := nodes_nodup hw hn k h.1 (by omega) (hw h (up_mem u))
      simp only [clb, List.map_cons]
      refine List.nodup_cons.mpr ⟨fun hm => ?_, ih⟩
      have := hn x hx
      unfold inIt at this
      rw [List.any_eq_false] at this
      have e : h.1 :: (clb F k (up F h.1)).map (·.1) = (clb F (k + 1) (up F x)).map (·.1) := by rw [u]; simp [clb]
      rw [e] at hm
      obtain ⟨g, hg, eg⟩ := List.mem_map.mp hm
      exact this g (clb_sub hk g hg) (by simpa using eg)
theorem nodup_bound : ∀ (n : Nat) (l : List Nat), l.Nodup → (∀ a ∈ l, a < n) → l.length ≤ n
  | 0, l, _, h => by
    cases l with
    | nil => simp
    | cons a l => exact absurd (h a List.mem_cons_self) (by omega)
  | n + 1, l, hd, h => by
    have h1 := nodup_bound n (l.erase n) (hd.erase n) fun a ha => by
      have h2 := h a (List.mem_of_mem_erase ha)
      have h3 : a ≠ n := fun e => by subst e; exact (hd.not_mem_erase) ha
      omega
    have h4 := List.length_erase_le (a := n) (l := l)
    by_cases hm : n ∈ l
    · rw [List.length_erase_of_mem hm] at h1
      omega
    · rw [List.erase_of_not_mem hm] at h1
      omega
theorem clb_full : ∀ (k : Nat) (p : Pl), ¬ ends F k p → (clb F k p).length = k
  | _, none, h => (h (by simp [ends])).elim
  | 0, some _, _ => by simp [clb]
  | k + 1, some h, z => by
    simp only [clb, List.length_cons, clb_full k (up F h.1) (by simpa [ends] using z)]
theorem clb_lt (hw : Wf F) : ∀ (k : Nat) (p : Pl), (∀ h, p = some h → h.1 < F.length) → ∀ h ∈ clb F k p, h.1 < F.length
  | 0, _, _, _, h => by simp [clb] at h
  | k + 1, none, _, _, h => by simp [clb] at h
  | k + 1, some g, hp, a, h => by
    simp only [clb, List.mem_cons] at h
    rcases h with rfl | h
    · exact hp a rfl
    · exact clb_lt hw k _ (fun h hh => hw h (up_mem hh)) a h
theorem ends_all (hw : Wf F) (hn : noR F) (hx : x < F.length) : ends F F.length (up F x) := by
  refine Classical.byContradiction fun h => ?_
  have h1 := clb_full _ _ h
  have h2 := nodes_nodup hw hn F.length x (Nat.le_refl _) hx
  have h3 := nodup_bound F.length _ h2 fun a ha => by
    rcases List.mem_cons.mp ha with rfl | ha
    · exact hx
    · obtain ⟨g, hg, rfl⟩ := List.mem_map.mp ha
      exact clb_lt hw _ _ (fun h hh => hw h (up_mem hh)) g hg
  simp only [List.length_cons, List.length_map, h1] at h3
  omega
def allS (R : List Nat) (x y : Nat) : List Sd := .ap :: ((List.range (rm R y)).map .inn ++ (List.range (rm R x)).map .aro)
theorem rm_le (hR : okR R) : rm R x ≤ 4 := by
  unfold rm
  cases h : R[x]? with
  | none => simp
  | some r => simpa using hR.2 r (List.mem_of_getElem? h)
end
end Lib
namespace Lib
open PySem PySem.Spec PyProof.Rows L2 DN
variable {Xp : EP}
section
variable {Q : PV → Store → Prop} {st : Store} {F : List Pl} {R : List Nat} {x y : Nat} {p f : PV}
end
end Lib
namespace Lib
open PySem PySem.Spec PyProof.Rows L2 DN
variable {Xp : EP}
section
variable {Q : PV → Store → Prop} {st : Store} {F : List Pl} {R : List Nat} {x y : Nat} {p f : PV}
theorem thing_spec (hp : dab 20 p = true) (q : Q (.bl (nmB R.length p)) st) : (wpX Xp) (is_thing [rv R, p] st) Q := by
  refine wp_fn ?_
  simp
  refine whole_spec hp ?_
  simp
  cases p with
  | int i =>
    simp [isWh, rv]
    by_cases h : 0 ≤ i
    · simp [h]
      exact Gc.same (by simp) (by simpa [nmB, h] using q)
    · simp [h]
      exact Gc.same (by simp) (by simpa [nmB, h] using q)
  | _ => simp [isWh]; exact Gc.same (by simp) q
structure Sy where
  x : Nat
  y : Nat
  lot : List Sd
def syv (s : Sy) : PV := .tup [.int s.x, .int s.y, .tup (s.lot.map sv)]
def okSy (R : List Nat) (s : Sy) : Prop := s.x < R.length ∧ s.y < R.length ∧ s.x ≠ s.y ∧ s.lot.Sublist (allS R s.x s.y)
def IsSy (R : List Nat) (p : PV) : Prop := ∃ s, p = syv s ∧ okSy R s
theorem dab_one {n : Nat} {l : List PV} (h : dab (n + 1) (.tup l) = true) {p : PV} (hp : p ∈ l) : dab n p = true := by
  simp only [dab, List.all_eq_true] at h
  exact h p hp
open Classical in
noncomputable def fw (R : List Nat) : Nat → List PV → Option Nat
  | _, [] => none
  | i, p :: r => if IsSy R p then fw R (i + 1) r else some i
def fk (F : List Pl) : Nat → List Sy → Option Nat
  | _, [] => none
  | i, s :: r => if std F s.x s.y ∈ s.lot then fk F (i + 1) r else some i
end
end Lib
namespace Lib
open PySem PySem.Spec PyProof.Rows L2 DN
variable {Xp : EP}
section
variable {Q : PV → Store → Prop} {st : Store} {F : List Pl} {R : List Nat} {x y : Nat} {p f : PV}
def turn : Sd → Sd
  | .ap => .ap
  | .inn r => .aro r
  | .aro r => .inn r
def tbl (R : List Nat) (S : List Sy) (a b : Nat) : List Sd := (allS R a b).filter fun s => S.all fun z => (!(decide (z.x = a) && decide (z.y = b)) || decide (s ∈ z.lot)) && (!(decide (z.x = b) && decide (z.y = a)) || decide (turn s ∈ z.lot))
def Tb (es : List (List Key × PV)) (n : Nat) (t : Nat → Nat → List Sd) : Prop := ∀ a b : Nat, a < n → b < n → a ≠ b → look es [.inl a, .inl b] = some (.lst ((t a b).map sv))
def Cln (es : List (List Key × PV)) : Prop := ∀ e ∈ es, cl e.2 = true
theorem cl_svs {L : List Sd} : cls (L.map sv) = true := cls_iff.mpr fun p hp => by
  obtain ⟨s, _, rfl⟩ := List.mem_map.mp hp
  exact cl_sv
theorem Cln.put {es : List (List Key × PV)} {k : List Key} {L : List Sd} (h : Cln es) : Cln (putA es k (.lst (L.map sv))) := putA_vals (p := fun v => cl v = true) h (by simpa using cl_svs)
end
end Lib
namespace Lib
open PySem PySem.Spec PyProof.Rows L2 DN
variable {Xp : EP}
section
variable {Q : PV → Store → Prop} {st : Store} {F : List Pl} {R : List Nat} {x y n : Nat} {p f : PV} {t : Nat → Nat → List Sd} {es : List (List Key × PV)}
def insN (i : Nat) : List Nat → List Nat
  | [] => [i]
  | j :: r => if i ≤ j then i :: j :: r else j :: insN i r
def srt : List Nat → List Nat
  | [] => []
  | i :: r => insN i (srt r)
theorem insN_perm (i : Nat) : ∀ l : List Nat, (insN i l).Perm (i :: l)
  | [] => List.Perm.refl _
  | j :: r => by
    unfold insN
    split
    · exact List.Perm.refl _
    · exact ((insN_perm i r).cons j).trans (List.Perm.swap i j r)
theorem srt_perm : ∀ l : List Nat, (srt l).Perm l
  | [] => List.Perm.refl _
  | i :: r => (insN_perm i (srt r)).trans ((srt_perm r).cons i)
def lk (t : Nat → Nat → List Sd) (a b : Nat) : Bool := !decide (.ap ∈ t a b)
def grow (t : Nat → Nat → List Sd) : Nat → List Nat → List Nat → Nat → List Nat × List Nat
  | 0, left, part, _ => (left, part)
  | k + 1, left, part, a => match part[a]? with
    | some u => grow t k (left.filter fun y => !lk t u y) (part ++ left.filter fun y => lk t u y) (a + 1)
    | none => (left, part)
def prt (t : Nat → Nat → List Sd) : Nat → List Nat → List (List Nat)
  | 0, _ => []
  | _ + 1, [] => []
  | k + 1, a :: l => srt (grow t (l.length + 1) l [a] 0).2 :: prt t k (grow t (l.length + 1) l [a] 0).1
def pt (t : Nat → Nat → List Sd) (L : List Nat) : List (List Nat) := prt t L.length (srt L)
def tv (P : List Nat) : PV := .tup (P.map nv)
theorem flat_nodup {l : List (List Nat)} (h : l.flatten.Nodup) {P : List Nat} (hP : P ∈ l) : P.Nodup := by
  induction l with
  | nil => cases hP
  | cons a l ih =>
    rw [List.flatten_cons, List.nodup_append] at h
    rcases List.mem_cons.mp hP with rfl | hP
    · exact h.1
    · exact ih h.2.1 hP
end
end Lib
namespace Lib
open PySem PySem.Spec PyProof.Rows L2 DN
variable {Xp : EP}
section
variable {Q : PV → Store → Prop} {st : Store} {F : List Pl} {R : List Nat} {x y n : Nat} {p f : PV} {t : Nat → Nat → List Sd} {es : List (List Key × PV)}
theorem dab_nvs {L : List Nat} {m : Nat} : (L.map nv).all (dab m) = true := by
  rw [List.all_eq_true]
  intro p hp
  obtain ⟨a, _, rfl⟩ := List.mem_map.mp hp
  cases m <;> simp [nv, dab]
theorem cls_nvs {L : List Nat} : cls (L.map nv) = true := cls_iff.mpr fun p hp => by
  obtain ⟨a, _, rfl⟩ := List.mem_map.mp hp
  simp [nv]
theorem wp_notInN {L : List Nat} {a : Nat} : (wpX Xp) (pNotIn (nv a) (.lst (L.map nv)) st) Q = Q (.bl (!decide (a ∈ L))) st := by
  rw [wp_notInL (by simp [nv, dpv]) (by simp [nv, dpv])]
  congr 3
  rw [decide_eq_decide, List.mem_map]
  constructor
  · rintro ⟨b, hb, e⟩
    simp only [nv, PV.int.injEq] at e
    have : b = a := by omega
    exact this ▸ hb
  · exact fun h => ⟨a, h, rfl⟩
theorem atI_nv {L : List Nat} {i u : Nat} (h : L[i]? = some u) : atI (L.map nv) (i : Int) = some (nv u) := by
  have hl := (List.getElem?_eq_some_iff.mp h).1
  rw [atI_map hl, (List.getElem?_eq_some_iff.mp h).2]
end
end Lib
namespace Lib
open PySem PySem.Spec PyProof.Rows L2 DN
variable {Xp : EP}
section
variable {Q : PV → Store → Prop} {st : Store} {F : List Pl} {R : List Nat} {x y n : Nat} {p f : PV} {t : Nat → Nat → List Sd} {es : List (List Key × PV)}
def les (L : List Nat) (x : Nat) : List Nat := L.filter fun y => !decide (y = x)
def Sq (w : PV) (L : List Nat) : Prop := w = .lst (L.map nv) ∨ w = tv L
theorem Sq.src {w : PV} {L : List Nat} {QI : Src → Store → Prop} (h : Sq w L) : (wpX Xp) (srcOf w st) QI = QI (L.map nv, fun _ => true) st := by
  rcases h with rfl | rfl
  · simp
  · simp [tv]
theorem Sq.cl {w : PV} {L : List Nat} (h : Sq w L) : cl w = true := by
  rcases h with rfl | rfl
  · simpa using cls_nvs
  · simpa [tv] using cls_nvs
def ovr (R : List Nat) (t : Nat → Nat → List Sd) (x : Nat) (P : List Nat) : List Nat := (List.range (rm R x)).filter fun i => P.all fun y => decide (.aro i ∈ t x y)
theorem les_nodup {L : List Nat} (h : L.Nodup) : (les L x).Nodup := h.filter _
theorem les_mem {L : List Nat} {a : Nat} : a ∈ les L x ↔ a ∈ L ∧ a ≠ x := by simp [les]
theorem les_len {L : List Nat} (hd : L.Nodup) (hx : x ∈ L) : (les L x).length + 1 = L.length := by
  have e : les L x = L.erase x := by
    rw [hd.erase_eq_filter]
    unfold les
    congr 1
  rw [e, List.length_erase_of_mem hx]
  have := List.length_pos_of_mem hx
  omega
def wk (w : List Nat × Pl) : PV := .tup [tv w.1, pv w.2]
theorem dab_pv {q : Pl} {m : Nat} (h : 1 ≤ m) : dab m (pv q) = true := by
  obtain ⟨m, rfl⟩ : ∃ k, m = k + 1 := ⟨m - 1, by omega⟩
  cases q with
  | none => simp [pv, dab]
  | some g => cases m <;> simp [pv, pp, dab]
theorem cls_pvs {F : List Pl} : cls (F.map pv) = true := cls_iff.mpr fun p hp => by
  obtain ⟨q, _, rfl⟩ := List.mem_map.mp hp
  cases q <;> simp [pv, pp]
end
end Lib
namespace Lib
open PySem PySem.Spec PyProof.Rows L2 DN
variable {Xp : EP}
section
variable {Q : PV → Store → Prop} {st : Store} {F : List Pl} {R : List Nat} {x y n s : Nat} {p f : PV}
theorem takeN {top : Nat} (hs : SrcAt st s) (h0 : 0 < top) (h1 : top < 1000000) (q : ∀ (i : Nat) st', i < top → Dr s st st' → Q (.int i) st') : (wpX Xp) (_law_take [.ref s, .int top] st) Q :=
  take_spec hs (by omega) (by simp only [B200_eq]; omega) fun i st' h2 h3 hd => by
    have := q i.toNat st' (by omega) hd
    rwa [show ((i.toNat : Nat) : Int) = i by omega] at this
theorem erase_map {α β : Type} {g : α → β} : ∀ {l : List α} {j : Nat}, (l.map g).eraseIdx j = (l.eraseIdx j).map g
  | [], j => by simp
  | a :: l, 0 => by simp
  | a :: l, j + 1 => by simp [erase_map (l := l)]
theorem erase_perm {α : Type} : ∀ {l : List α} {j : Nat} (h : j < l.length), (l[j] :: l.eraseIdx j).Perm l
  | a :: l, 0, _ => by simp
  | a :: l, j + 1, h => by
    have h' : j < l.length := by simpa using h
    have ih := erase_perm (l := l) (j := j) h'
    simp only [List.getElem_cons_succ, List.eraseIdx_cons_succ]
    exact (List.Perm.swap a l[j] _).trans (ih.cons a)
theorem mixed_spec {L : List Nat} {w : PV} (hw : w = .lst (L.map nv)) (hs : SrcAt st s) (hz : L.length ≤ 1000) (q : ∀ (M : List Nat) st', M.Perm L → Dr s st st' → Q (.lst (M.map nv)) st') : (wpX Xp) (_law_mixed [.ref s, w] st) Q := by
  subst hw
  refine wp_fn ?_
  have hlt := hs.lt
  simp [rgN hz]
  refine wps_forRo (fun i σ st' => ∃ (left found : List Nat) (x : Store), σ = [some (.ref s), some (.lst (L.map nv)), none, some (.ref st.length), some (.ref (st.length + 1))] ∧ st' = x ++ [.lst (left.map nv), .lst (found.map nv)] ∧ Dr s st x ∧ (found ++ left).Perm L ∧ (left.length : Int) + i = L.length ∧ 0 ≤ i) ?_ ?_ ⟨L, [], st, rfl, rfl, .refl, by simp, by omega, by omega⟩
  · rintro I hI i σ st' ⟨left, found, x, rfl, rfl, hd, hp, hl, hi0⟩ hi
    have hxl := hd.len
    simp
    refine ⟨isL_ref (l := found.map nv) (by rw [app_get hxl]; rfl), isL_ref (l := left.map nv) (by rw [app_get0 hxl]; rfl), ?_⟩
    rw [wp_lenR (l := left.map nv) (by rw [app_get0 hxl]; rfl)]
    simp
    refine takeN (hd.src hs).app (by omega) (by omega) fun j st2 hj hd2 => ?_
    obtain ⟨x2, rfl, hd3⟩ := Dr.app (by omega) hd2
    have hxl2 : x2.length = st.length := by rw [hd3.len, hxl]
    have hu : left[j]? = some left[j] := List.getElem?_eq_getElem hj
    refine wp_pop1 (l := left.map nv) (y := nv left[j]) (by rw [app_get0 hxl2]; rfl) (by rw [List.getElem?_map, hu]; rfl) (by omega) ?_
    rw [app_set0 hxl2]
    refine wp_append (l := found.map nv) (by rw [app_get hxl2]; rfl) ?_ ?_
    · have := hp.length_eq
      simp only [List.length_append] at this
      simp only [List.length_map, SZ_lit]
      omega
    · rw [app_set hxl2]
      simp [wipeA]
      refine hI _ _ _ ⟨left.eraseIdx j, found ++ [left[j]], x2, rfl, by rw [erase_map]; simp, hd.trans hd3, ?_, by rw [List.length_eraseIdx_of_lt hj]; omega, by omega⟩
      have h1 : (left[j] :: left.eraseIdx j).Perm left := erase_perm hj
      rw [List.append_assoc]
      exact (List.Perm.append_left found h1).trans hp
  · rintro i σ st' ⟨left, found, x, rfl, rfl, hd, hp, hl, hi0⟩ hi
    have : left = [] := List.length_eq_zero_iff.mp (by omega)
    subst this
    simp [wipeA]
    exact Gc.lst (s := s) (x := x) (junk := [.lst [], .lst (found.map nv)]) (n := st.length + 1) (l := found.map nv) cls_nvs hd rfl (by omega) (by rw [List.getElem?_append_right (by rw [hd.len]; omega), hd.len]; simp) (q found x (by simpa using hp) hd)
theorem noR_rank (hw : Wf F) (g : Nat → Nat) (h : ∀ (x : Nat) (q : Nat × Nat), up F x = some q → g q.1 < g x) : noR F := by
  have key : ∀ (k : Nat) (p : Pl) (m : Nat), (∀ q, p = some q → g q.1 < m) → ∀ a ∈ clb F k p, g a.1 < m := by
    intro k
    induction k with
    | zero => intro p m _ a ha; simp [clb] at ha
    | succ k ih =>
      intro p m hp a ha
      cases p with
      | none => simp [clb] at ha
      | some q =>
        have hq := hp q rfl
        simp only [clb, List.mem_cons] at ha
        rcases ha with rfl | ha
        · exact hq
        · exact ih _ m (fun q' hq' => Nat.lt_trans (h _ _ hq') hq) a ha
  intro x hx
  unfold inIt
  rw [List.any_eq_false]
  intro a ha
  have := key _ _ (g x) (fun q hq => h x q hq) a ha
  simp
  intro e
  rw [e] at this
  omega
theorem up_set {x y : Nat} {q : Pl} (hx : x < F.length) : up (F.set x q) y = if y = x then q else up F y := by
  unfold up
  by_cases h : y = x
  · subst h
    rw [if_pos rfl, List.getElem?_set_self hx]
    rfl
  · rw [if_neg h, List.getElem?_set_ne (fun e => h e.symm)]
def okO (R : List Nat) (O : List Nat) (F : List Pl) (k : Nat) : Prop := ∀ (x : Nat) (q : Nat × Nat), up F x = some q → q.2 < rm R q.1 ∧ ∃ i j : Nat, i < j ∧ j < k ∧ O[j]? = some x ∧ O[i]? = some q.1
theorem cut_take {α : Type} {l : List α} {k : Nat} : cut l none (some (k : Int)) = l.take k := by
  simp only [cut, HT.sIx_none, HT.sIx_nat]
  simp
def pos : List Nat → Nat → Nat
  | [], _ => 0
  | a :: l, x => if a = x then 0 else pos l x + 1
theorem pos_at : ∀ {O : List Nat} {j x : Nat}, O.Nodup → O[j]? = some x → pos O x = j
  | [], _, _, _, h => by simp at h
  | a :: l, 0, x, _, h => by simp at h; simp [pos, h]
  | a :: l, j + 1, x, hn, h => by
    have h' : l[j]? = some x := by simpa using h
    have hm : x ∈ l := List.mem_of_getElem? h'
    have : a ≠ x := fun e => (List.nodup_cons.mp hn).1 (e ▸ hm)
    simp [pos, this, pos_at (List.nodup_cons.mp hn).2 h']
theorem grown_spec (hs : SrcAt st s) (hR : okR R) (q : ∀ F st', okF R F → noR F → Dr s st st' → Q (fv F) st') : (wpX Xp) (_law_grown [.ref s, rv R] st) Q := by
  refine wp_fn ?_
  have hlt := hs.lt
  have h24 := hR.1
  simp [rv, rgN (show R.length ≤ 1000 by omega)]
  rw [rgP_nat]
  refine wp_lcA nv _ (fun i hi => by simp [wipeA, nv]) ?_
  simp
  refine ⟨by omega, ?_⟩
  refine mixed_spec rfl hs (by simp; omega) fun O st1 hO hd => ?_
  have hOl := hO.length_eq
  simp at hOl
  have hOn : O.Nodup := hO.nodup_iff.mpr List.nodup_range
  have hOm : ∀ a ∈ O, a < R.length := fun a ha => by simpa using hO.subset ha
  simp [rgN (show R.length ≤ 1000 by omega)]
  refine wp_lcA (fun _ => .non) _ (fun i hi => by simp [wipeA]) ?_
  obtain ⟨F0, hF0, hF0n, e0⟩ : ∃ F0 : List Pl, F0.length = R.length ∧ (∀ h, some h ∉ F0) ∧ (List.range R.length).map (fun _ => PV.non) = F0.map pv := by
    refine ⟨List.replicate R.length none, by simp, by simp, ?_⟩
    rw [List.map_const']
    simp [pv]
  rw [e0]
  have hl1 := hd.len
  simp [hF0]
  refine ⟨by omega, rgN (by omega), ?_⟩
  refine wps_forRo (fun i σ st' => ∃ (k : Nat) (F : List Pl) (x : Store), i = (k : Int) ∧ k ≤ R.length ∧ σ = [some (.ref s), some (rv R), some (.lst (O.map nv)), some (.ref st.length), none, none, none, none, none] ∧ st' = x ++ [.lst (F.map pv)] ∧ Dr s st x ∧ F.length = R.length ∧ okO R O F k) ?_ ?_ ⟨0, F0, st1, rfl, by omega, by rw [← hl1]; rfl, rfl, hd, hF0, fun x q h => absurd (up_mem h) (hF0n q)⟩
  · rintro I hI i σ st' ⟨k, F, x, rfl, hk, rfl, rfl, hd, hF, hO2⟩ hi
    have hxl := hd.len
    have hkO : k < O.length := by omega
    have hOk : O[k]? = some O[k] := List.getElem?_eq_getElem hkO
    have huR : O[k] < R.length := hOm _ (List.getElem_mem hkO)
    generalize O[k] = u at hOk huR
    have skip : ∀ x', Dr s st x' → I ((k : Int) + 1) [some (.ref s), some (rv R), some (.lst (O.map nv)), some (.ref st.length), none, none, none, none, none] (x' ++ [.lst (F.map pv)]) := fun x' hd' => hI _ _ _ ⟨k + 1, F, x', by omega, by omega, rfl, rfl, hd', hF, fun a b h => by
      obtain ⟨h1, i, j, h2, h3, h4⟩ := hO2 a b h
      exact ⟨h1, i, j, h2, by omega, h4⟩⟩
    simp [cut_take]
    rw [← List.map_take]
    refine wp_lcF (fun y => decide (0 < rm R y)) nv _ (fun y hy => ?_) ?_
    · have hy' := hOm y (List.mem_of_mem_take hy)
      simp [wipeA, nv, rv, atI_rv hy']
    · have hfl := List.length_filter_le (fun y => decide (0 < rm R y)) (O.take k)
      have htl : (O.take k).length ≤ 24 := by simp; omega
      simp
      refine ⟨by omega, ?_⟩
      rw [wp_neNil dab_nvs]
      simp
      cases hG : ((O.take k).filter fun y => decide (0 < rm R y)).isEmpty with
      | true =>
        simp [wipeA]
        exact skip x hd
      | false =>
        have hG' : ((O.take k).filter fun y => decide (0 < rm R y)) ≠ [] := fun e => by rw [e] at hG; simp at hG
        generalize hGe : ((O.take k).filter fun y => decide (0 < rm R y)) = G at hfl hG'
        simp
        refine takeN (top := 4) (hd.src hs).app (by omega) (by omega) fun j st2 hj hd2 => ?_
        obtain ⟨x2, rfl, hd3⟩ := Dr.app (by omega) hd2
        simp
        by_cases hj0 : 0 < j
        · rw [cnd_pos (decide_eq_true (by omega))]
          refine one_spec ((hd.trans hd3).src hs).app (by simpa using hG') (by simp only [List.length_map, SZ_lit]; omega) cls_nvs fun v st3 hv hd4 => ?_
          obtain ⟨x3, rfl, hd5⟩ := Dr.app (by rw [hd3.len]; omega) hd4
          obtain ⟨h, hh, rfl⟩ := List.mem_map.mp hv
          rw [← hGe] at hh
          obtain ⟨hh1, hh2⟩ := List.mem_filter.mp hh
          have hh2 : 0 < rm R h := by simpa using hh2
          have hhR := hOm h (List.mem_of_mem_take hh1)
          have h4 := rm_le (x := h) hR
          simp [nv, rv, atI_rv hhR]
          refine takeN (((hd.trans hd3).trans hd5).src hs).app hh2 (by omega) fun r st4 hr hd6 => ?_
          obtain ⟨x4, rfl, hd7⟩ := Dr.app (by rw [hd5.len, hd3.len]; omega) hd6
          have hd8 := ((hd.trans hd3).trans hd5).trans hd7
          have hx4 := hd8.len
          try simp
          refine ⟨nv u, atI_nv hOk, ?_⟩
          refine wp_setL (l := F.map pv) (j := u) (by rw [app_get0 hx4]; rfl) (by simpa using ixN_nat (show u < F.length by omega)) ?_
          rw [app_set0 hx4]
          simp [wipeA]
          refine hI _ _ _ ⟨k + 1, F.set u (some (h, r)), x4, by omega, by omega, rfl, by rw [List.map_set]; rfl, hd8, by simpa using hF, fun a b hab => ?_⟩
          rw [up_set (by omega)] at hab
          by_cases hau : a = u
          · rw [if_pos hau] at hab
            cases hab
            subst hau
            obtain ⟨i, hi1, hi2⟩ := List.mem_iff_getElem.mp hh1
            simp at hi1
            refine ⟨hr, i, k, by omega, by omega, hOk, ?_⟩
            rw [List.getElem_take] at hi2
            rw [← hi2]
            exact List.getElem?_eq_getElem _
          · rw [if_neg hau] at hab
            obtain ⟨h1, i, j, h2, h3, h4⟩ := hO2 a b hab
            exact ⟨h1, i, j, h2, by omega, h4⟩
        · rw [cnd_neg (decide_eq_false (by omega))]
          simp [wipeA]
          exact skip x2 (hd.trans hd3)
  · rintro i σ st' ⟨k, F, x, rfl, hk, rfl, rfl, hd, hF, hO2⟩ hi
    have hxl := hd.len
    simp [wipeA]
    rw [wp_tupR (l := F.map pv) (by rw [app_get0 hxl]; rfl)]
    have hok : okF R F := ⟨hF, fun x hx h hh => by
      obtain ⟨h1, i, j, h2, h3, h4, h5⟩ := hO2 x h hh
      refine ⟨hOm _ (List.mem_of_getElem? h5), fun e => ?_, h1⟩
      have p1 := pos_at hOn h4
      have p2 := pos_at hOn h5
      rw [e] at p2
      omega⟩
    refine Gc.dr (s := s) (x := x) (junk := [.lst (F.map pv)]) (by simpa using cls_pvs) hd rfl (q F x hok (noR_rank hok.wf (pos O) fun x h hh => ?_) hd)
    obtain ⟨h1, i, j, h2, h3, h4, h5⟩ := hO2 x h hh
    rw [pos_at hOn h4, pos_at hOn h5]
    exact h2
end
end Lib
namespace Lib
open PySem PySem.Spec PyProof.Rows L2 DN
variable {Xp : EP}
section
variable {Q : PV → Store → Prop} {st : Store} {F : List Pl} {R : List Nat} {x y n s : Nat} {p f : PV}
theorem find_mem {F : List Pl} {x y : Nat} {h : Nat × Nat} (e : (clb F F.length (up F x)).find? (fun h => decide (h.1 = y)) = some h) : h ∈ clb F F.length (up F x) ∧ h.1 = y := ⟨List.mem_of_find?_eq_some e, by simpa using List.find?_some e⟩
def Ar (F : List Pl) (x y : Nat) : Prop := ∃ h ∈ clb F F.length (up F x), h.1 = y
theorem clb_tail (hw : Wf F) (hn : noR F) : ∀ (k : Nat) (x : Nat), k ≤ F.length → x < F.length → ∀ h ∈ clb F k (up F x), ∀ g ∈ clb F F.length (up F h.1), g ∈ clb F F.length (up F x) := by
  -- a climb that ends is a suffix of the climb below it
  have suf : ∀ (k : Nat) (x m : Nat), x < F.length → ends F m (up F x) → ∀ h ∈ clb F k (up F x), ∀ (j : Nat), ∀ g ∈ clb F j (up F h.1), g ∈ clb F m (up F x) := by
    intro k
    induction k with
    | zero => intro x m _ _ h hh; simp [clb] at hh
    | succ k ih =>
      intro x m hx he h hh j g hg
      cases u : up F x with
      | none => rw [u] at hh; simp [clb] at hh
      | some q =>
        rw [u] at hh he
        cases m with
        | zero => simp [ends] at he
        | succ m =>
          have he' : ends F m (up F q.1) := by simpa [ends] using he
          have hq := hw q (up_mem u)
          simp only [clb, List.mem_cons] at hh ⊢
          have into : ∀ (j m : Nat) (p : Pl), ends F m p → ∀ g ∈ clb F j p, g ∈ clb F m p := by
            intro j
            induction j with
            | zero => intro m p _ g hg; simp [clb] at hg
            | succ j ihj =>
              intro m p he g hg
              cases p with
              | none => simp [clb] at hg
              | some a =>
                cases m with
                | zero => simp [ends] at he
                | succ m =>
                  simp only [clb, List.mem_cons] at hg ⊢
                  exact hg.imp id (ihj m _ (by simpa [ends] using he) g)
          rcases hh with rfl | hh
          · exact .inr (into j m _ he' g hg)
          · exact .inr (ih q.1 m hq he' h hh j g hg)
  intro k x hk hx h hh g hg
  exact suf k x _ hx (ends_all hw hn hx) h hh _ g hg
theorem ar_anti (hw : Wf F) (hn : noR F) (hx : x < F.length) (h1 : Ar F x y) (h2 : Ar F y x) : False := by
  obtain ⟨h, hh, rfl⟩ := h1
  obtain ⟨g, hg, e⟩ := h2
  have := clb_tail hw hn _ x (Nat.le_refl _) hx h hh g hg
  have z := hn x hx
  unfold inIt at z
  rw [List.any_eq_false] at z
  exact z g this (by simpa using e)
theorem std_turn (hw : Wf F) (hn : noR F) (hx : x < F.length) : std F y x = turn (std F x y) := by
  unfold std
  cases e1 : (clb F F.length (up F x)).find? fun h => decide (h.1 = y) with
  | some h =>
    obtain ⟨h1, h2⟩ := find_mem e1
    cases e2 : (clb F F.length (up F y)).find? fun h => decide (h.1 = x) with
    | some g =>
      obtain ⟨h3, h4⟩ := find_mem e2
      exact (ar_anti hw hn hx ⟨h, h1, h2⟩ ⟨g, h3, h4⟩).elim
    | none => simp [turn]
  | none =>
    cases e2 : (clb F F.length (up F y)).find? fun h => decide (h.1 = x) with
    | some g => simp [turn]
    | none => simp [turn]
end
end Lib
namespace Lib
open PySem PySem.Spec PyProof.Rows L2 DN
variable {Xp : EP}
section
variable {Q : PV → Store → Prop} {st : Store} {R : List Nat} {S : List Sy} {x y n s : Nat} {p f : PV}
theorem made_rooms_spec (hR : okR R) (q : Q (rv R) st) : (wpX Xp) (made_rooms [rv R] st) Q := by
  refine wp_fn ?_
  have h24 := hR.1
  have hd : dab 20 (.tup (R.map nv)) = true := dab_rv
  simp [rv, wp_isTup hd, isTp]
  rw [cnd_neg (decide_eq_false (by omega))]
  refine wps_forLo (fun m σ st' => ∃ i r, m = DN.numbered i (r.map nv) ∧ σ = [some (.tup (R.map nv)), none, none] ∧ st = st' ∧ (∀ a ∈ r, a ≤ 4)) _ ?_ ?_ ⟨0, R, rfl, rfl, rfl, hR.2⟩
  · rintro I hI p m σ st' ⟨i, r, e, rfl, rfl, hm⟩
    cases r with
    | nil => cases e
    | cons a r =>
      simp only [List.map_cons, DN.numbered, List.cons.injEq] at e
      obtain ⟨rfl, rfl⟩ := e
      have h4 := hm a (by simp)
      simp
      refine whole_spec (by simp [nv, dab]) ?_
      simp [nv, isWh]
      rw [cnd_pos (decide_eq_true (show (a : Int) ≤ 4 by omega))]
      simp [wipeA]
      exact hI _ _ _ ⟨_, _, rfl, rfl, rfl, fun p hp => hm p (List.mem_cons_of_mem _ hp)⟩
  · rintro σ st' ⟨i, r, e, rfl, rfl, hm⟩
    cases r with
    | nil =>
      simp [wipeA]
      refine Gc.same (dab_cl hd) q
    | cons a r => cases e
theorem cut_drop {α : Type} {l : List α} {k : Nat} : cut l (some (k : Int)) none = l.drop k := by
  simp only [cut, HT.sIx_none, HT.sIx_nat]
  by_cases h : k ≤ l.length
  · rw [Nat.min_eq_left h, List.take_of_length_le (by simp)]
  · rw [Nat.min_eq_right (by omega), List.drop_of_length_le (by omega : l.length ≤ k)]
    simp
end
end Lib
namespace Lib
open PySem PySem.Spec PyProof.Rows L2 DN
variable {Xp : EP}
section
variable {Q : PV → Store → Prop} {st : Store} {R : List Nat} {S : List Sy} {x y n s : Nat} {p f : PV} {t : Nat → Nat → List Sd} {es : List (List Key × PV)}
def CN (es : List (List Key × PV)) : Prop := Cln es ∧ (es.map (·.1)).Nodup
theorem CN.nil : CN [] := ⟨(fun e he => by cases he), by simp⟩
def nr (t : Nat → Nat → List Sd) (n x : Nat) : List Nat := (List.range n).filter fun y => !decide (y = x) && lk t x y
end
end Lib
namespace Lib
open PySem PySem.Spec PyProof.Rows L2 DN
variable {Xp : EP}
inductive Rch (t : Nat → Nat → List Sd) (L : List Nat) (a : Nat) : Nat → Prop where
  | refl : Rch t L a a
  | step {x y : Nat} : Rch t L a x → y ∈ L → y ≠ x → lk t x y = true → Rch t L a y
open Classical in
noncomputable def cmp (t : Nat → Nat → List Sd) (L : List Nat) (a : Nat) : List Nat := L.filter fun y => decide (Rch t L a y)
section
variable {Q : PV → Store → Prop} {st : Store} {R : List Nat} {S : List Sy} {x y n s : Nat} {p f : PV} {t : Nat → Nat → List Sd} {es : List (List Key × PV)} {L : List Nat}
theorem Rch.mem {a b : Nat} (ha : a ∈ L) (h : Rch t L a b) : b ∈ L := by
  cases h with
  | refl => exact ha
  | step _ h _ _ => exact h
def Ks (es : List (Key × PV)) (M : List Nat) : Prop := (∀ x : Nat, (look es (.inl (x : Int))).isSome = decide (x ∈ M)) ∧ es.length ≤ M.length
theorem Ks.put {es : List (Key × PV)} {M : List Nat} {y : Nat} {v : PV} (h : Ks es M) : Ks (putA es (.inl (y : Int)) v) (M ++ [y]) := by
  refine ⟨fun x => ?_, by have := putA_len (es := es) (k := (.inl (y : Int) : Key)) (v := v); have := h.2; simp; omega⟩
  rw [look_putA]
  by_cases e : y = x
  · subst e; simp
  · rw [if_neg (by intro h; simp at h; omega), h.1 x]
    simp [Ne.symm e]
end
end Lib
namespace Lib
open PySem PySem.Spec PyProof.Rows L2 DN
variable {Xp : EP}
open Classical in
noncomputable def pf (t : Nat → Nat → List Sd) : Nat → List Nat → List (List Nat)
  | 0, _ => []
  | _ + 1, [] => []
  | k + 1, a :: l => cmp t (a :: l) a :: pf t k ((a :: l).filter fun x => !decide (x ∈ cmp t (a :: l) a))
noncomputable def pi (t : Nat → Nat → List Sd) (L : List Nat) : List (List Nat) := pf t L.length L
section
variable {Q : PV → Store → Prop} {st : Store} {R : List Nat} {S : List Sy} {x y n s : Nat} {p f : PV} {t : Nat → Nat → List Sd} {es : List (List Key × PV)} {L : List Nat}
theorem cmp_self {a : Nat} (h : a ∈ L) : a ∈ cmp t L a := by
  unfold cmp
  simp only [List.mem_filter, decide_eq_true_eq]
  exact ⟨h, .refl⟩
theorem less_len {a : Nat} {l : List Nat} : ((a :: l).filter fun x => !decide (x ∈ cmp t (a :: l) a)).length ≤ l.length := by
  have h := cmp_self (t := t) (L := a :: l) (a := a) (by simp)
  rw [List.filter_cons, if_neg (by simp [h])]
  exact List.length_filter_le _ _
theorem pf_fuel : ∀ (k m : Nat) (l : List Nat), l.length ≤ k → l.length ≤ m → pf t k l = pf t m l
  | 0, m, l, h, _ => by
    have : l = [] := List.length_eq_zero_iff.mp (by omega)
    subst this
    cases m <;> rfl
  | k + 1, 0, l, _, h => by
    have : l = [] := List.length_eq_zero_iff.mp (by omega)
    subst this
    rfl
  | k + 1, m + 1, [], _, _ => rfl
  | k + 1, m + 1, a :: l, h1, h2 => by
    simp only [List.length_cons] at h1 h2
    have := less_len (t := t) (a := a) (l := l)
    unfold pf
    rw [pf_fuel k m _ (by omega) (by omega)]
theorem pi_cons {a : Nat} {l : List Nat} : pi t (a :: l) = cmp t (a :: l) a :: pi t ((a :: l).filter fun x => !decide (x ∈ cmp t (a :: l) a)) := by
  have h : pi t (a :: l) = cmp t (a :: l) a :: pf t l.length ((a :: l).filter fun x => !decide (x ∈ cmp t (a :: l) a)) := rfl
  rw [h, pf_fuel _ _ _ less_len (Nat.le_refl _)]
  rfl
theorem all_nvs {l : List Nat} {m : Nat} : (l.map nv).all (dpv m) = true := by
  rw [List.all_eq_true]
  intro p hp
  obtain ⟨x, _, rfl⟩ := List.mem_map.mp hp
  cases m <;> rfl
theorem mem_nv {l : List Nat} {x : Nat} : PV.int (x : Int) ∈ l.map nv ↔ x ∈ l := by
  rw [List.mem_map]
  constructor
  · rintro ⟨y, h, e⟩
    simp only [nv, PV.int.injEq] at e
    have : y = x := by omega
    subst this
    exact h
  · exact fun h => ⟨x, h, rfl⟩
theorem wp_inNT {l : List Nat} : (wpX Xp) (pIn (.int x) (.tup (l.map nv)) st) Q = Q (.bl (decide (x ∈ l))) st := by
  rw [wp_inT (by simp [dpv]) all_nvs]; simp only [mem_nv]
theorem wp_inNL {l : List Nat} : (wpX Xp) (pIn (.int x) (.lst (l.map nv)) st) Q = Q (.bl (decide (x ∈ l))) st := by
  rw [wp_inL (by simp [dpv]) all_nvs]; simp only [mem_nv]
end
end Lib
namespace Lib
open PySem PySem.Spec PyProof.Rows L2 DN
variable {Xp : EP}
def okL (n : Nat) (L : List Nat) : Prop := L.Pairwise (· < ·) ∧ ∀ a ∈ L, a < n
section
variable {Q : PV → Store → Prop} {st : Store} {R : List Nat} {S : List Sy} {x y n s : Nat} {p f : PV} {t : Nat → Nat → List Sd} {es : List (List Key × PV)} {L : List Nat}
theorem okL.nodup (h : okL n L) : L.Nodup := h.1.imp fun h => Nat.ne_of_lt h
theorem okL.len (h : okL n L) : L.length ≤ n := nodup_bound n L h.nodup h.2
end
end Lib
namespace Lib
open PySem PySem.Spec PyProof.Rows L2 DN
def Sym (t : Nat → Nat → List Sd) : Prop := ∀ a b, lk t a b = lk t b a
theorem asc_ext : ∀ {l m : List Nat}, l.Pairwise (· < ·) → m.Pairwise (· < ·) → (∀ a, a ∈ l ↔ a ∈ m) → l = m
  | [], [], _, _, _ => rfl
  | [], b :: m, _, _, h => absurd ((h b).mpr (by simp)) (by simp)
  | a :: l, [], _, _, h => absurd ((h a).mp (by simp)) (by simp)
  | a :: l, b :: m, hl, hm, h => by
    obtain ⟨l1, l2⟩ := List.pairwise_cons.mp hl
    obtain ⟨m1, m2⟩ := List.pairwise_cons.mp hm
    have e : a = b := by
      have h1 := (h a).mp (by simp)
      have h2 := (h b).mpr (by simp)
      rcases List.mem_cons.mp h1 with h1 | h1
      · exact h1
      · rcases List.mem_cons.mp h2 with h2 | h2
        · exact h2.symm
        · have := l1 b h2; have := m1 a h1; omega
    subst e
    rw [asc_ext l2 m2 fun c => ?_]
    have := h c
    constructor
    · intro hc
      rcases List.mem_cons.mp (this.mp (by simp [hc])) with e | h'
      · subst e; have := l1 c hc; omega
      · exact h'
    · intro hc
      rcases List.mem_cons.mp (this.mpr (by simp [hc])) with e | h'
      · subst e; have := m1 c hc; omega
      · exact h'
theorem insN_sorted {i : Nat} : ∀ {l : List Nat}, l.Pairwise (· ≤ ·) → (insN i l).Pairwise (· ≤ ·)
  | [], _ => by simp [insN]
  | j :: r, h => by
    obtain ⟨h1, h2⟩ := List.pairwise_cons.mp h
    unfold insN
    split
    · rename_i hij
      refine List.pairwise_cons.mpr ⟨fun a ha => ?_, h⟩
      rcases List.mem_cons.mp ha with rfl | ha
      · exact hij
      · exact Nat.le_trans hij (h1 a ha)
    · refine List.pairwise_cons.mpr ⟨fun a ha => ?_, insN_sorted h2⟩
      have := (insN_perm i r).mem_iff.mp ha
      rcases List.mem_cons.mp this with rfl | ha
      · omega
      · exact h1 a ha
theorem srt_sorted : ∀ l : List Nat, (srt l).Pairwise (· ≤ ·)
  | [] => by simp [srt]
  | i :: r => insN_sorted (srt_sorted r)
theorem lt_of_le_nodup {l : List Nat} (h : l.Pairwise (· ≤ ·)) (nd : l.Nodup) : l.Pairwise (· < ·) :=
  (h.and nd).imp fun h => by have := h.1; have := h.2; omega
theorem srt_asc {l : List Nat} (nd : l.Nodup) : (srt l).Pairwise (· < ·) := lt_of_le_nodup (srt_sorted l) ((srt_perm l).nodup_iff.mpr nd)
theorem asc_nodup {l : List Nat} (h : l.Pairwise (· < ·)) : l.Nodup := h.imp fun h => by omega
theorem srt_mem {l : List Nat} {a : Nat} : a ∈ srt l ↔ a ∈ l := (srt_perm l).mem_iff
theorem asc_filter {l : List Nat} {f : Nat → Bool} (h : l.Pairwise (· < ·)) : (l.filter f).Pairwise (· < ·) := h.sublist List.filter_sublist
section
variable {t : Nat → Nat → List Sd} {L : List Nat} {a b c : Nat}
theorem Rch.trans (h : Rch t L a b) (g : Rch t L b c) : Rch t L a c := by
  induction g with
  | refl => exact h
  | step _ h1 h2 h3 ih => exact .step ih h1 h2 h3
theorem Rch.one (hb : b ∈ L) (h : lk t a b = true) (hn : b ≠ a) : Rch t L a b := .step .refl hb hn h
theorem Rch.memL (ha : a ∈ L) (h : Rch t L a b) : b ∈ L := by
  cases h with
  | refl => exact ha
  | step _ h _ _ => exact h
theorem Rch.symm (hs : Sym t) (ha : a ∈ L) (h : Rch t L a b) : Rch t L b a := by
  induction h with
  | refl => exact .refl
  | @step x y h1 h2 h3 h4 ih => exact .trans (.one (h1.memL ha) (by rw [hs]; exact h4) (Ne.symm h3)) ih
theorem Rch.sub {M : List Nat} (hM : ∀ x ∈ M, x ∈ L) (h : Rch t M a b) : Rch t L a b := by
  induction h with
  | refl => exact .refl
  | step _ h2 h3 h4 ih => exact .step ih (hM _ h2) h3 h4
theorem mem_cmp : b ∈ cmp t L a ↔ b ∈ L ∧ Rch t L a b := by unfold cmp; simp
theorem cmp_congr (hs : Sym t) (ha : a ∈ L) (h : Rch t L a b) : cmp t L a = cmp t L b := by
  unfold cmp
  refine List.filter_congr fun y _ => ?_
  simp only [decide_eq_decide]
  exact ⟨fun g => .trans (h.symm hs ha) g, fun g => .trans h g⟩
noncomputable def lft (t : Nat → Nat → List Sd) (L : List Nat) (a : Nat) : List Nat := L.filter fun x => !decide (x ∈ cmp t L a)
theorem mem_lft : b ∈ lft t L a ↔ b ∈ L ∧ ¬ Rch t L a b := by
  unfold lft
  simp only [List.mem_filter, mem_cmp, Bool.not_eq_true', decide_eq_false_iff_not]
  exact ⟨fun h => ⟨h.1, fun g => h.2 ⟨h.1, g⟩⟩, fun h => ⟨h.1, fun g => h.2 g.2⟩⟩
theorem Rch.lft (hs : Sym t) (ha : a ∈ L) (hb : b ∈ lft t L a) (h : Rch t L b c) : Rch t (lft t L a) b c := by
  induction h with
  | refl => exact .refl
  | @step x y h1 h2 h3 h4 ih =>
    refine .step ih ?_ h3 h4
    have hb' := mem_lft.mp hb
    refine mem_lft.mpr ⟨h2, fun g => hb'.2 ?_⟩
    have hbx : Rch t L b y := .step h1 h2 h3 h4
    exact .trans g (hbx.symm hs hb'.1)
theorem cmp_lft (hs : Sym t) (ha : a ∈ L) (hb : b ∈ lft t L a) : cmp t (lft t L a) b = cmp t L b := by
  have hb' := mem_lft.mp hb
  have e : cmp t (lft t L a) b = L.filter fun y => decide (y ∈ cmp t (lft t L a) b) := by
    conv => lhs; unfold cmp
    conv => lhs; arg 2; unfold Lib.lft
    rw [List.filter_filter]
    refine List.filter_congr fun y hy => ?_
    rw [Bool.eq_iff_iff]
    simp only [Bool.and_eq_true, decide_eq_true_eq, Bool.not_eq_true', decide_eq_false_iff_not, mem_cmp, mem_lft]
    exact ⟨fun h => ⟨⟨hy, fun g => h.2 ⟨hy, g⟩⟩, h.1⟩, fun h => ⟨h.2, fun g => h.1.2 g.2⟩⟩
  rw [e]
  conv => rhs; unfold cmp
  refine List.filter_congr fun y hy => ?_
  simp only [decide_eq_decide, mem_cmp]
  refine ⟨fun h => h.2.sub fun x hx => (mem_lft.mp hx).1, fun h => ⟨?_, h.lft hs ha hb⟩⟩
  exact (h.lft hs ha hb).memL hb
theorem lft_len (ha : a ∈ L) : (lft t L a).length < L.length := by
  unfold lft
  have h1 : (L.filter (fun x => decide (x ∈ cmp t L a))).length + (L.filter (fun x => !decide (x ∈ cmp t L a))).length = L.length := by
    rw [← List.length_append]; exact (List.filter_append_perm _ _).length_eq
  have h2 : 0 < (L.filter fun x => decide (x ∈ cmp t L a)).length := List.length_pos_of_mem (a := a) (List.mem_filter.mpr ⟨ha, by simp [mem_cmp, ha]; exact .refl⟩)
  omega
theorem pi_ind {P : List Nat → Prop} (h0 : P []) (h1 : ∀ a l, P (lft t (a :: l) a) → P (a :: l)) : ∀ L, P L := fun L => by
  induction hn : L.length using Nat.strongRecOn generalizing L with
  | ind n ih =>
    cases L with
    | nil => exact h0
    | cons a l =>
      exact h1 a l (ih _ (by rw [← hn]; exact lft_len (by simp)) _ rfl)
theorem pi_nil : pi t [] = [] := rfl
theorem pi_cons' {l : List Nat} : pi t (a :: l) = cmp t (a :: l) a :: pi t (lft t (a :: l) a) := pi_cons
theorem mem_pi (hs : Sym t) {P : List Nat} : ∀ {L : List Nat}, P ∈ pi t L ↔ ∃ a ∈ L, P = cmp t L a := fun {L} => by
  refine pi_ind (t := t) (P := fun L => P ∈ pi t L ↔ ∃ a ∈ L, P = cmp t L a) (by simp [pi_nil]) (fun a l ih => ?_) L
  rw [pi_cons', List.mem_cons, ih]
  constructor
  · rintro (rfl | ⟨b, hb, rfl⟩)
    · exact ⟨a, by simp, rfl⟩
    · exact ⟨b, (mem_lft.mp hb).1, cmp_lft hs (by simp) hb⟩
  · rintro ⟨b, hb, rfl⟩
    by_cases h : Rch t (a :: l) a b
    · exact .inl (cmp_congr hs (by simp) h).symm
    · have := mem_lft.mpr ⟨hb, h⟩
      exact .inr ⟨b, this, (cmp_lft hs (by simp) this).symm⟩
theorem pi_perm : ∀ {L : List Nat}, (pi t L).flatten.Perm L := fun {L} => by
  refine pi_ind (t := t) (P := fun L => (pi t L).flatten.Perm L) (by simp [pi_nil]) (fun a l ih => ?_) L
  rw [pi_cons', List.flatten_cons]
  refine ((ih.append_left _)).trans ?_
  have e : cmp t (a :: l) a = (a :: l).filter fun x => decide (x ∈ cmp t (a :: l) a) := by
    conv => lhs; unfold cmp
    refine List.filter_congr fun y hy => ?_
    simp only [decide_eq_decide, mem_cmp]
    exact ⟨fun h => ⟨hy, h⟩, fun h => h.2⟩
  conv => lhs; lhs; rw [e]
  exact List.filter_append_perm _ _
theorem pi_pos {P : List Nat} : ∀ {L : List Nat}, P ∈ pi t L → P ≠ [] := fun {L} => by
  refine pi_ind (t := t) (P := fun L => P ∈ pi t L → P ≠ []) (by simp [pi_nil]) (fun a l ih h => ?_) L
  rw [pi_cons', List.mem_cons] at h
  rcases h with rfl | h
  · exact List.ne_nil_of_mem (a := a) (mem_cmp.mpr ⟨by simp, .refl⟩)
  · exact ih h
theorem pi_sub {P : List Nat} (hP : P ∈ pi t L) : ∀ a ∈ P, a ∈ L := fun a ha => (pi_perm (t := t)).mem_iff.mp (List.mem_flatten.mpr ⟨P, hP, ha⟩)
theorem pi_asc {P : List Nat} (hL : L.Pairwise (· < ·)) (hP : P ∈ pi t L) : P.Pairwise (· < ·) := by
  revert hL hP
  refine pi_ind (t := t) (P := fun L => L.Pairwise (· < ·) → P ∈ pi t L → P.Pairwise (· < ·)) (by simp [pi_nil]) (fun a l ih hL h => ?_) L
  rw [pi_cons', List.mem_cons] at h
  rcases h with rfl | h
  · unfold cmp; exact asc_filter hL
  · refine ih ?_ h
    unfold lft; exact asc_filter hL
theorem flat_nodup' {l : List (List Nat)} (h : l.flatten.Nodup) (hp : ∀ P ∈ l, P ≠ []) : l.Nodup := by
  induction l with
  | nil => simp
  | cons P l ih =>
    rw [List.flatten_cons] at h
    obtain ⟨h1, h2, h3⟩ := List.nodup_append.mp h
    refine List.nodup_cons.mpr ⟨fun hm => ?_, ih h2 fun Q hQ => hp Q (by simp [hQ])⟩
    obtain ⟨a, P', rfl⟩ := List.exists_cons_of_ne_nil (hp P (by simp))
    exact h3 a (by simp) a (List.mem_flatten.mpr ⟨_, hm, by simp⟩) rfl
end
end Lib
namespace Lib
open PySem PySem.Spec PyProof.Rows L2 DN
def jn (x y : Nat) (rows : List (List Nat)) : List (List Nat) :=
  (rows.filter fun r => !decide (x ∈ r) && !decide (y ∈ r)) ++ [(rows.filter fun r => decide (x ∈ r) || decide (y ∈ r)).flatten]
structure CI (t : Nat → Nat → List Sd) (L : List Nat) (P : List (Nat × Nat)) (rows : List (List Nat)) : Prop where
  perm : rows.flatten.Perm L
  pos : ∀ r ∈ rows, r ≠ []
  con : ∀ r ∈ rows, ∀ a ∈ r, ∀ b ∈ r, Rch t L a b
  lnk : ∀ l ∈ P, l.1 ∈ L → l.2 ∈ L → ∃ r ∈ rows, l.1 ∈ r ∧ l.2 ∈ r
section
variable {t : Nat → Nat → List Sd} {L : List Nat} {P : List (Nat × Nat)} {rows : List (List Nat)} {x y : Nat}
theorem CI.init : CI t L [] (L.map fun x => [x]) where
  perm := by
    have : (L.map fun x => [x]).flatten = L := by induction L with | nil => rfl | cons a l ih => simp [ih]
    rw [this]
  pos r hr := by
    obtain ⟨a, _, rfl⟩ := List.mem_map.mp hr
    simp
  con r hr a ha b hb := by
    obtain ⟨c, _, rfl⟩ := List.mem_map.mp hr
    simp at ha hb
    subst ha; subst hb
    exact .refl
  lnk l hl := by cases hl
theorem CI.skip (h : CI t L P rows) (n : ¬ (x ∈ L ∧ y ∈ L)) : CI t L (P ++ [(x, y)]) rows where
  perm := h.perm
  pos := h.pos
  con := h.con
  lnk l hl h1 h2 := by
    rcases List.mem_append.mp hl with hl | hl
    · exact h.lnk l hl h1 h2
    · simp at hl; subst hl; exact absurd ⟨h1, h2⟩ n
theorem jn_split (r : List Nat) : (!decide (x ∈ r) && !decide (y ∈ r)) = !(decide (x ∈ r) || decide (y ∈ r)) := by simp
theorem CI.step (hs : Sym t) (h : CI t L P rows) (hx : x ∈ L) (hy : y ∈ L) (hn : x ≠ y) (hl : lk t x y = true) : CI t L (P ++ [(x, y)]) (jn x y rows) := by
  have hxy : Rch t L x y := .one hy hl (Ne.symm hn)
  have hyx : Rch t L y x := hxy.symm hs hx
  obtain ⟨rx, hrx, hxr⟩ := List.mem_flatten.mp (h.perm.mem_iff.mpr hx)
  obtain ⟨ry, hry, hyr⟩ := List.mem_flatten.mp (h.perm.mem_iff.mpr hy)
  have jm : ∀ r ∈ rows, (x ∈ r ∨ y ∈ r) → ∀ a ∈ r, a ∈ (rows.filter fun r => decide (x ∈ r) || decide (y ∈ r)).flatten := fun r hr hxy a ha => List.mem_flatten.mpr ⟨r, List.mem_filter.mpr ⟨hr, by simpa using hxy⟩, ha⟩
  have to : ∀ a ∈ (rows.filter fun r => decide (x ∈ r) || decide (y ∈ r)).flatten, Rch t L a x ∧ Rch t L x a := fun a ha => by
    obtain ⟨r, hr, ha⟩ := List.mem_flatten.mp ha
    obtain ⟨hr, hr2⟩ := List.mem_filter.mp hr
    simp at hr2
    rcases hr2 with h1 | h1
    · exact ⟨h.con r hr a ha x h1, h.con r hr x h1 a ha⟩
    · exact ⟨.trans (h.con r hr a ha y h1) hyx, .trans hxy (h.con r hr y h1 a ha)⟩
  refine ⟨?_, fun r hr => ?_, fun r hr a ha b hb => ?_, fun l hl h1 h2 => ?_⟩
  · refine List.Perm.trans ?_ h.perm
    unfold jn
    rw [List.flatten_append, List.flatten_singleton, ← List.flatten_append]
    refine List.Perm.flatten ?_
    simp only [jn_split]
    exact List.perm_append_comm.trans (List.filter_append_perm _ _)
  · rcases List.mem_append.mp hr with hr | hr
    · exact h.pos r (List.mem_filter.mp hr).1
    · simp only [List.mem_singleton] at hr
      subst hr
      exact List.ne_nil_of_mem (jm rx hrx (.inl hxr) x hxr)
  · rcases List.mem_append.mp hr with hr | hr
    · exact h.con r (List.mem_filter.mp hr).1 a ha b hb
    · simp only [List.mem_singleton] at hr
      subst hr
      exact .trans (to a ha).1 (to b hb).2
  · rcases List.mem_append.mp hl with hl | hl
    · obtain ⟨r, hr, g1, g2⟩ := h.lnk l hl h1 h2
      by_cases q : x ∈ r ∨ y ∈ r
      · exact ⟨_, List.mem_append.mpr (.inr (List.mem_singleton.mpr rfl)), jm r hr q _ g1, jm r hr q _ g2⟩
      · exact ⟨r, List.mem_append.mpr (.inl (List.mem_filter.mpr ⟨hr, by simpa [not_or] using q⟩)), g1, g2⟩
    · simp at hl
      subst hl
      exact ⟨_, List.mem_append.mpr (.inr (List.mem_singleton.mpr rfl)), jm rx hrx (.inl hxr) _ hxr, jm ry hry (.inr hyr) _ hyr⟩
theorem CI.fin (hs : Sym t) (hL : L.Pairwise (· < ·)) (h : CI t L P rows) (hc : ∀ a ∈ L, ∀ b ∈ L, b ≠ a → lk t a b = true → (a, b) ∈ P ∨ (b, a) ∈ P) : (rows.map srt).Perm (pi t L) := by
  have hn := asc_nodup hL
  have hf : rows.flatten.Nodup := h.perm.nodup_iff.mpr hn
  have rn : ∀ r ∈ rows, r.Nodup := fun r hr => flat_nodup hf hr
  have same : ∀ (rs : List (List Nat)), rs.flatten.Nodup → ∀ r ∈ rs, ∀ r' ∈ rs, ∀ a, a ∈ r → a ∈ r' → r = r' := by
    intro rs
    induction rs with
    | nil => intro _ r hr; cases hr
    | cons q rs ih =>
      intro hf r hr r' hr' a ha ha'
      rw [List.flatten_cons] at hf
      obtain ⟨h1, h2, h3⟩ := List.nodup_append.mp hf
      rcases List.mem_cons.mp hr with e | g <;> rcases List.mem_cons.mp hr' with e' | g'
      · rw [e, e']
      · subst e; exact absurd rfl (h3 a ha a (List.mem_flatten.mpr ⟨r', g', ha'⟩))
      · subst e'; exact absurd rfl (h3 a ha' a (List.mem_flatten.mpr ⟨r, g, ha⟩))
      · exact ih h2 r g r' g' a ha ha'
  have cl : ∀ r ∈ rows, ∀ a ∈ r, ∀ b, Rch t L a b → b ∈ r := fun r hr a ha b hb => by
    have haL : a ∈ L := h.perm.mem_iff.mp (List.mem_flatten.mpr ⟨r, hr, ha⟩)
    induction hb with
    | refl => exact ha
    | @step u v g1 g2 g3 g4 ih =>
      have hu := g1.memL haL
      have : ∃ r' ∈ rows, u ∈ r' ∧ v ∈ r' := by
        rcases hc u hu v g2 g3 g4 with g | g
        · obtain ⟨r', h1, h2, h3⟩ := h.lnk _ g hu g2; exact ⟨r', h1, h2, h3⟩
        · obtain ⟨r', h1, h2, h3⟩ := h.lnk _ g g2 hu; exact ⟨r', h1, h3, h2⟩
      obtain ⟨r', h1, h2, h3⟩ := this
      rw [same rows hf r hr r' h1 u ih h2]
      exact h3
  have key : ∀ r ∈ rows, ∀ a ∈ r, srt r = cmp t L a := fun r hr a ha => by
    refine asc_ext (srt_asc (rn r hr)) (by unfold cmp; exact asc_filter hL) fun b => ?_
    rw [srt_mem, mem_cmp]
    have haL : a ∈ L := h.perm.mem_iff.mp (List.mem_flatten.mpr ⟨r, hr, ha⟩)
    exact ⟨fun hb => ⟨h.perm.mem_iff.mp (List.mem_flatten.mpr ⟨r, hr, hb⟩), h.con r hr a ha b hb⟩, fun hb => cl r hr a ha b hb.2⟩
  have sp : ∀ rs : List (List Nat), (rs.map srt).flatten.Perm rs.flatten := by
    intro rs
    induction rs with
    | nil => exact .refl _
    | cons r rs ih => simp only [List.map_cons, List.flatten_cons]; exact (srt_perm r).append ih
  refine (List.perm_ext_iff_of_nodup (flat_nodup' ((sp rows).nodup_iff.mpr hf) fun p hp => ?_) (flat_nodup' ((pi_perm (t := t)).nodup_iff.mpr hn) fun p hp => pi_pos hp)).mpr fun p => ?_
  · obtain ⟨r, hr, rfl⟩ := List.mem_map.mp hp
    intro e
    have := (srt_perm r).length_eq
    rw [e] at this
    exact h.pos r hr (List.length_eq_zero_iff.mp this.symm)
  · rw [mem_pi hs, List.mem_map]
    constructor
    · rintro ⟨r, hr, rfl⟩
      obtain ⟨a, m, rfl⟩ := List.exists_cons_of_ne_nil (h.pos r hr)
      exact ⟨a, h.perm.mem_iff.mp (List.mem_flatten.mpr ⟨_, hr, by simp⟩), key _ hr a (by simp)⟩
    · rintro ⟨a, ha, rfl⟩
      obtain ⟨r, hr, har⟩ := List.mem_flatten.mp (h.perm.mem_iff.mpr ha)
      exact ⟨r, hr, key r hr a har⟩
end
end Lib
namespace Lib
open PySem PySem.Spec PyProof.Rows L2 DN
variable {Xp : EP}
theorem cls_map {α : Type} {g : α → PV} (hg : ∀ a, DN.cl (g a) = true) {l : List α} : cls (l.map g) = true := cls_iff.mpr fun p hp => by
  obtain ⟨a, _, rfl⟩ := List.mem_map.mp hp
  exact hg a
section
variable {Q : PV → Store → Prop} {st : Store} {F : List Pl} {R : List Nat} {S : List Sy} {x y n s : Nat} {p f : PV}
end
end Lib
namespace Lib
open PySem PySem.Spec PyProof.Rows L2 DN
section
variable {F : List Pl} {R : List Nat} {x y z n : Nat} {t : Nat → Nat → List Sd} {L : List Nat}
def An (F : List Pl) (x : Nat) : List (Nat × Nat) := clb F F.length (up F x)
theorem clb_ends : ∀ {k m : Nat} {p : Pl}, ends F k p → k ≤ m → clb F m p = clb F k p
  | 0, 0, none, _, _ => rfl
  | 0, m + 1, none, _, _ => rfl
  | 0, _, some _, h, _ => h.elim
  | k + 1, 0, none, _, h => by omega
  | k + 1, m + 1, none, _, _ => rfl
  | k + 1, 0, some g, _, h => by omega
  | k + 1, m + 1, some g, h, hm => by
    simp only [clb]
    rw [clb_ends (k := k) (m := m) h (by omega)]
structure Fo (F : List Pl) : Prop where
  wf : Wf F
  nr : noR F
theorem An_none (h : up F x = none) : An F x = [] := by
  unfold An
  rw [h]
  cases F.length <;> rfl
theorem An_some (o : Fo F) (hx : x < F.length) {h : Nat × Nat} (e : up F x = some h) : An F x = h :: An F h.1 := by
  have he := ends_all o.wf o.nr hx
  unfold An
  rw [e] at he ⊢
  obtain ⟨k, hk⟩ : ∃ k, F.length = k + 1 := ⟨F.length - 1, by omega⟩
  rw [hk] at he ⊢
  simp only [clb, List.cons.injEq, true_and]
  have he' : ends F k (up F h.1) := he
  rw [clb_ends (m := k + 1) he' (by omega)]
theorem up_lt {h : Nat × Nat} (o : Fo F) (e : up F x = some h) : h.1 < F.length := o.wf h (up_mem e)
theorem An_nd (o : Fo F) (hx : x < F.length) : (x :: (An F x).map (·.1)).Nodup := nodes_nodup o.wf o.nr F.length x (Nat.le_refl _) hx
theorem An_ind (o : Fo F) {P : Nat → Prop} (h0 : ∀ x, x < F.length → up F x = none → P x) (h1 : ∀ x h, x < F.length → up F x = some h → P h.1 → P x) : ∀ x, x < F.length → P x := by
  intro x hx
  induction hn : (An F x).length using Nat.strongRecOn generalizing x with
  | ind n ih =>
    cases e : up F x with
    | none => exact h0 x hx e
    | some h =>
      refine h1 x h hx e (ih (An F h.1).length ?_ h.1 (up_lt o e) rfl)
      rw [← hn, An_some o hx e]
      simp
theorem An_trans (o : Fo F) (hx : x < F.length) {h g : Nat × Nat} (m : h ∈ An F x) (m2 : g ∈ An F h.1) : g ∈ An F x :=
  clb_tail o.wf o.nr F.length x (Nat.le_refl _) hx h m g m2
theorem An_split (o : Fo F) : ∀ x, x < F.length → ∀ {l1 l2 : List (Nat × Nat)} {h : Nat × Nat}, An F x = l1 ++ h :: l2 → l2 = An F h.1 :=
  An_ind o (P := fun x => ∀ {l1 l2 : List (Nat × Nat)} {h : Nat × Nat}, An F x = l1 ++ h :: l2 → l2 = An F h.1) (fun x hx e l1 l2 h s => by
    rw [An_none e] at s
    simp at s) fun x g hx e ih l1 l2 h s => by
    rw [An_some o hx e] at s
    cases l1 with
    | nil => simp at s; obtain ⟨rfl, s⟩ := s; exact s.symm
    | cons a l1 => simp at s; exact ih s.2
theorem An_lin (o : Fo F) (hx : x < F.length) {h g : Nat × Nat} (m : h ∈ An F x) (m2 : g ∈ An F x) : h = g ∨ g ∈ An F h.1 ∨ h ∈ An F g.1 := by
  obtain ⟨l1, l2, s⟩ := List.append_of_mem m
  have e := An_split o x hx s
  rw [s] at m2
  rcases List.mem_append.mp m2 with h1 | h1
  · obtain ⟨a, b, s1⟩ := List.append_of_mem h1
    have s2 : An F x = a ++ g :: (b ++ h :: l2) := by rw [s, s1]; simp
    have e2 := An_split o x hx s2
    exact .inr (.inr (by rw [← e2]; simp))
  · rcases List.mem_cons.mp h1 with h1 | h1
    · exact .inl h1.symm
    · exact .inr (.inl (by rw [← e]; exact h1))
theorem An_room (o : Fo F) (hx : x < F.length) {h g : Nat × Nat} (m : h ∈ An F x) (m2 : g ∈ An F x) (e : h.1 = g.1) : h = g := by
  have nd := (List.nodup_cons.mp (An_nd o hx)).2
  have : ∀ (l : List (Nat × Nat)), (l.map (·.1)).Nodup → h ∈ l → g ∈ l → h = g := by
    intro l
    induction l with
    | nil => intro _ h; cases h
    | cons a l ih =>
      intro nd h1 h2
      rw [List.map_cons] at nd
      obtain ⟨n1, n2⟩ := List.nodup_cons.mp nd
      rcases List.mem_cons.mp h1 with e1 | e1 <;> rcases List.mem_cons.mp h2 with e2 | e2
      · rw [e1, e2]
      · exact absurd (List.mem_map.mpr ⟨g, e2, by rw [← e, e1]⟩) n1
      · exact absurd (List.mem_map.mpr ⟨h, e1, by rw [e, e2]⟩) n1
      · exact ih n2 e1 e2
  exact this _ nd m m2
theorem std_inn (o : Fo F) (hx : x < F.length) {r : Nat} (m : (y, r) ∈ An F x) : std F x y = .inn r := by
  unfold std
  have : ∃ h, (clb F F.length (up F x)).find? (fun h => decide (h.1 = y)) = some h := by
    cases q : (clb F F.length (up F x)).find? (fun h => decide (h.1 = y)) with
    | some h => exact ⟨h, rfl⟩
    | none => exact absurd (List.find?_eq_none.mp q (y, r) m) (by simp)
  obtain ⟨h, e⟩ := this
  rw [e]
  obtain ⟨h1, h2⟩ := find_mem e
  have := An_room o hx (show h ∈ An F x from h1) m h2
  subst this
  rfl
theorem std_aro (o : Fo F) (hx : x < F.length) (hy : y < F.length) {r : Nat} (m : (x, r) ∈ An F y) : std F x y = .aro r := by
  rw [std_turn o.wf o.nr hy, std_inn o hy m]
  rfl
theorem std_ap (h1 : ∀ r, (y, r) ∉ An F x) (h2 : ∀ r, (x, r) ∉ An F y) : std F x y = .ap := by
  unfold std
  have e1 : (clb F F.length (up F x)).find? (fun h => decide (h.1 = y)) = none := List.find?_eq_none.mpr fun h m => by
    simp
    rintro rfl
    exact h1 h.2 m
  have e2 : (clb F F.length (up F y)).find? (fun h => decide (h.1 = x)) = none := List.find?_eq_none.mpr fun h m => by
    simp
    rintro rfl
    exact h2 h.2 m
  rw [e1, e2]
theorem std_not_ap (h : std F x y ≠ .ap) : (∃ r, (y, r) ∈ An F x) ∨ ∃ r, (x, r) ∈ An F y := by
  refine Classical.byContradiction fun c => h (std_ap (fun r m => c (.inl ⟨r, m⟩)) fun r m => c (.inr ⟨r, m⟩))
structure TabOk (R : List Nat) (t : Nat → Nat → List Sd) : Prop where
  turn : ∀ a b s, s ∈ t b a ↔ turn s ∈ t a b
theorem TabOk.sym (h : TabOk R t) : Sym t := fun a b => by
  unfold lk
  congr 1
  rw [decide_eq_decide, h.turn b a .ap]
  rfl
def freeP (R : List Nat) (t : Nat → Nat → List Sd) (L : List Nat) (x : Nat) : Prop := ∀ P ∈ pi t (les L x), ovr R t x P ≠ []
def conn (t : Nat → Nat → List Sd) (L : List Nat) : Prop := ∀ a ∈ L, ∀ b ∈ L, Rch t L a b
theorem conn_cmp (hs : Sym t) (hx : x ∈ L) : conn t (cmp t L x) := by
  have key : ∀ b, Rch t L x b → Rch t (cmp t L x) x b := fun b h => by
    induction h with
    | refl => exact .refl
    | @step u v h1 h2 h3 h4 ih => exact .step ih (mem_cmp.mpr ⟨h2, .step h1 h2 h3 h4⟩) h3 h4
  intro a ha b hb
  have h1 := key a (mem_cmp.mp ha).2
  have h2 := key b (mem_cmp.mp hb).2
  exact .trans (h1.symm hs (mem_cmp.mpr ⟨hx, .refl⟩)) h2
theorem conn_pi (hs : Sym t) {P : List Nat} (hP : P ∈ pi t L) : conn t P := by
  obtain ⟨a, ha, rfl⟩ := (mem_pi hs).mp hP
  exact conn_cmp hs ha
end
end Lib
namespace Lib
open PySem PySem.Spec PyProof.Rows L2 DN
section
variable {F : List Pl} {R : List Nat} {x y z n : Nat} {t : Nat → Nat → List Sd} {L : List Nat} {ask : List Nat → Option Nat}
inductive Each {α β : Type} (r : α → β → Prop) : List α → List β → Prop
  | nil : Each r [] []
  | cons {a : α} {b : β} {as : List α} {bs : List β} : r a b → Each r as bs → Each r (a :: as) (b :: bs)
theorem Each.imp {α β : Type} {r q : α → β → Prop} : ∀ {as : List α} {bs : List β}, Each r as bs → (∀ a ∈ as, ∀ b, r a b → q a b) → Each q as bs
  | _, _, .nil, _ => .nil
  | _, _, .cons h t, i => .cons (i _ (by simp) _ h) (t.imp fun a ha b => i a (by simp [ha]) b)
theorem Each.mem {α β : Type} {r : α → β → Prop} : ∀ {as : List α} {bs : List β}, Each r as bs → ∀ b ∈ bs, ∃ a ∈ as, r a b
  | _, _, .nil, _, h => by cases h
  | _, _, .cons h t, b, m => by
    rcases List.mem_cons.mp m with rfl | m
    · exact ⟨_, by simp, h⟩
    · obtain ⟨a, h1, h2⟩ := t.mem b m
      exact ⟨a, by simp [h1], h2⟩
structure AskOk (R : List Nat) (t : Nat → Nat → List Sd) (ask : List Nat → Option Nat) (n : Nat) : Prop where
  some : ∀ L x, okL n L → conn t L → ask L = some x → x ∈ L ∧ freeP R t L x
  none : ∀ L, okL n L → conn t L → ask L = none → ∀ x ∈ L, ¬ freeP R t L x
theorem okL_les (h : okL n L) : okL n (les L x) := ⟨asc_filter h.1, fun a ha => h.2 a (les_mem.mp ha).1⟩
theorem okL_pi (h : okL n L) {P : List Nat} (hP : P ∈ pi t L) : okL n P := ⟨pi_asc h.1 hP, fun a ha => h.2 a (pi_sub hP a ha)⟩
theorem pi_apart (hs : Sym t) {P Q : List Nat} (hP : P ∈ pi t L) (hQ : Q ∈ pi t L) {a b : Nat} (ha : a ∈ P) (hb : b ∈ Q) (hn : a ≠ b) (hl : lk t a b = true) : b ∈ P := by
  obtain ⟨u, hu, rfl⟩ := (mem_pi hs).mp hP
  have hbL := pi_sub hQ b hb
  exact mem_cmp.mpr ⟨hbL, .step (mem_cmp.mp ha).2 hbL (Ne.symm hn) hl⟩
structure Rows (R : List Nat) (L : List Nat) (pl : Pl) (m : List (Nat × Pl)) : Prop where
  keys : (m.map (·.1)).Perm L
  room : ∀ y p, (y, p) ∈ m → p = pl ∨ ∃ h, p = some h ∧ h.1 ∈ L ∧ h.1 ≠ y ∧ h.2 < rm R h.1
  ord : ∀ l1 y p l2, m = l1 ++ (y, p) :: l2 → p = pl ∨ ∃ h, p = some h ∧ h.1 ∈ l1.map (·.1)
end
end Lib
namespace Lib
open PySem PySem.Spec PyProof.Rows L2 DN
section
variable {F : List Pl} {R : List Nat} {x y z n : Nat} {t : Nat → Nat → List Sd} {L : List Nat} {ask : List Nat → Option Nat}
def Agree (F : List Pl) (m : List (Nat × Pl)) : Prop := ∀ y p, (y, p) ∈ m → up F y = p
theorem mem_ovr {i : Nat} {P : List Nat} : i ∈ ovr R t x P ↔ i < rm R x ∧ ∀ y ∈ P, .aro i ∈ t x y := by
  unfold ovr
  simp only [List.mem_filter, List.mem_range, List.all_eq_true, decide_eq_true_eq]
def plF (n : Nat) (m : List (Nat × Pl)) : List Pl := (List.range n).map fun y => (m.lookup y).getD none
theorem look_mem {m : List (Nat × Pl)} {y : Nat} {p : Pl} (hn : (m.map (·.1)).Nodup) (h : (y, p) ∈ m) : m.lookup y = some p := by
  induction m with
  | nil => cases h
  | cons a m ih =>
    obtain ⟨n1, n2⟩ := List.nodup_cons.mp hn
    rcases List.mem_cons.mp h with rfl | h
    · simp [List.lookup]
    · have : y ≠ a.1 := fun e => n1 (List.mem_map.mpr ⟨_, h, e⟩)
      rw [List.lookup_cons, show (y == a.1) = false by simpa using this]
      exact ih n2 h
theorem up_plF {n : Nat} {m : List (Nat × Pl)} (hy : y < n) : up (plF n m) y = (m.lookup y).getD none := by
  unfold up plF
  rw [List.getElem?_map, List.getElem?_range hy]
  rfl
theorem pi_len {P : List Nat} (hP : P ∈ pi t L) : P.length ≤ L.length := by
  have h := (pi_perm (t := t) (L := L)).length_eq
  obtain ⟨l1, l2, e⟩ := List.append_of_mem hP
  rw [e] at h
  simp only [List.flatten_append, List.flatten_cons, List.length_append] at h
  omega
end
end Lib
namespace Lib
open PySem PySem.Spec PyProof.Rows L2 DN
variable {Xp : EP}
section
variable {Q : PV → Store → Prop} {st : Store} {R : List Nat} {S : List Sy} {x y n s : Nat} {p f : PV} {t : Nat → Nat → List Sd} {es : List (List Key × PV)} {L : List Nat}
noncomputable def freeB (R : List Nat) (t : Nat → Nat → List Sd) (L : List Nat) (x : Nat) : Bool := (pi t (les L x)).all fun P => !(ovr R t x P).isEmpty
end
end Lib
namespace Lib
open PySem PySem.Spec PyProof.Rows L2 DN
variable {Xp : EP}
section
variable {Q : PV → Store → Prop} {st : Store} {R : List Nat} {S : List Sy} {x y n s : Nat} {p f : PV} {t : Nat → Nat → List Sd} {es : List (List Key × PV)} {L : List Nat} {ask : List Nat → Option Nat} {g : List PV → M PV} {cs : List PV}
def pm (e : Nat × Pl) : PV := .tup [.int e.1, pv e.2]
def LK (ek : List (Key × PV)) (acc : List (Nat × Pl)) : Prop := ∀ y : Nat, look ek (.inl (y : Int)) = (acc.reverse.lookup y).map pv
theorem LK.put {ek : List (Key × PV)} {acc : List (Nat × Pl)} {y : Nat} {p : Pl} (h : LK ek acc) : LK (putA ek (.inl (y : Int)) (pv p)) (acc ++ [(y, p)]) := fun z => by
  rw [look_putA, List.reverse_append, List.reverse_singleton, List.singleton_append, List.lookup_cons]
  by_cases e : y = z
  · subst e; simp
  · rw [if_neg (by intro h; simp at h; omega), show (z == y) = false by simpa using Ne.symm e, h z]
theorem cls_pvF {F : List Pl} : cls (F.map pv) = true := cls_map fun q => by cases q <;> simp [pv, pp]
end
end Lib
namespace Lib
open PySem PySem.Spec PyProof.Rows L2 DN
variable {Xp : EP}
section
variable {Q : PV → Store → Prop} {st : Store} {R : List Nat} {S : List Sy} {x y n s : Nat} {p f : PV} {t : Nat → Nat → List Sd} {es : List (List Key × PV)} {L : List Nat} {F : List Pl}
def Lets (R : List Nat) (t : Nat → Nat → List Sd) (F : List Pl) : Prop := okF R F ∧ Fo F ∧ ∀ a b, a < R.length → b < R.length → a ≠ b → std F a b ∈ t a b
end
end Lib
namespace Lib
open PySem PySem.Spec PyProof.Rows L2 DN
variable {Xp : EP}
section
variable {Q : PV → Store → Prop} {st : Store} {R : List Nat} {S : List Sy} {x y n s : Nat} {p f : PV} {t : Nat → Nat → List Sd} {F : List Pl}
theorem dab_fv {m : Nat} : dab (m + 2) (fv F) = true := by
  simp only [fv, dab, List.all_eq_true, List.mem_map]
  rintro p ⟨q, _, rfl⟩
  exact dab_pv (by omega)
theorem dpv_pv {q : Pl} {m : Nat} : dpv (m + 1) (pv q) = true := by cases q <;> simp [pv, pp, dpv]
theorem dpv_fv {m : Nat} : dpv (m + 2) (fv F) = true := by
  simp only [fv, dpv, List.all_eq_true, List.mem_map]
  rintro p ⟨q, _, rfl⟩
  exact dpv_pv
end
end Lib
namespace Lib
open PySem PySem.Spec PyProof.Rows L2 DN
variable {Xp : EP}
section
variable {Q : PV → Store → Prop} {st : Store} {R : List Nat} {S : List Sy} {x y n s : Nat} {p f : PV} {t : Nat → Nat → List Sd} {es : List (List Key × PV)} {L : List Nat} {F : List Pl}
end
end Lib
namespace Lib
open PySem PySem.Spec PyProof.Rows L2 DN
variable {Xp : EP}
section
variable {Q : PV → Store → Prop} {st : Store} {R : List Nat} {S : List Sy} {x y n s : Nat} {p f : PV} {t : Nat → Nat → List Sd} {L : List Nat} {F : List Pl} {es : List (List Key × PV)}
theorem made_forest_any (hR : okR R) (hf : dab 20 f = true) (q0 : (∀ l, f = .tup l → l.length ≠ R.length) → Xp ("BadForest" : Str) (.int (-1)) st)
    (q1 : ∀ l i, f = .tup l → l.length = R.length → fb R 0 l = some i → Xp ("BadForest" : Str) (.int (i : Nat)) st)
    (q2 : ∀ F i, f = fv F → okF R F → fr F F.length 0 = some i → Xp ("Ring" : Str) (.int (i : Nat)) st)
    (q3 : ∀ F, f = fv F → okF R F → noR F → Q (fv F) st) : (wpX Xp) (made_forest [rv R, f] st) Q := by
  have h24 := hR.1
  refine wp_fn ?_
  try simp
  refine made_rooms_spec hR ?_
  try simp
  rw [wp_isTup hf]
  cases f with
  | tup l =>
    simp [isTp, rv]
    by_cases hl : l.length = R.length
    · simp [hl]
      have hd : ∀ p ∈ l, dab 20 p = true := fun p hp => dab_mono (n := 19) (by omega) (dab_one hf hp)
      refine first_bad_spec hd ?_
      cases hb : fb R 0 l with
      | some i =>
        simp [ov]
        exact Gc.same (by simp) (q1 l i rfl hl hb)
      | none =>
        obtain ⟨F, rfl, hF⟩ := fb_forest hb hl
        have hFl := hF.1
        simp [ov]
        refine first_ring_spec hF.wf (by omega) ?_
        cases hr : fr F F.length 0 with
        | some i =>
          simp [ov]
          exact Gc.same (by simp) (q2 F i rfl hF hr)
        | none =>
          simp [ov]
          refine wp_lcA Lib.pv F (fun p hp => ?_) ?_
          · cases p with
            | none => simp [wipeA, Lib.pv]
            | some h => simp [wipeA, Lib.pv, pp]
          · simp
            refine ⟨by omega, Gc.same (by simpa using cls_pvs) ?_⟩
            have := q3 F rfl hF fun j hj => by simpa using (fr_none.mp hr) j hj
            simpa [fv] using this
    · rw [cnd_neg (decide_eq_false (by omega))]
      try simp
      exact Gc.same (by simp) (q0 fun l' e => by cases e; exact hl)
  | _ => first | (simp [dab] at hf; done) | (simp [isTp]; exact Gc.same (by simp) (q0 fun l' e => by cases e))
theorem made_forest_ok (hR : okR R) (hF : okF R F) (hn : noR F) (q : Q (fv F) st) : (wpX Xp) (made_forest [rv R, fv F] st) Q := by
  refine made_forest_any hR (dab_fv (m := 18)) (fun h => absurd hF.1 (by simpa using h _ rfl)) (fun l i e hl hb => ?_) (fun G i e hG hr => ?_) fun G e _ _ => ?_
  · cases e
    rw [fb_ok hF] at hb
    cases hb
  · cases fv_inj e
    rw [fr_none.mpr fun j hj => by simpa using hn j hj] at hr
    cases hr
  · cases fv_inj e
    exact q
end
end Lib
namespace Lib
open PySem PySem.Spec PyProof.Rows L2 DN
section
variable {F : List Pl} {R : List Nat} {x y z n : Nat} {t : Nat → Nat → List Sd} {L : List Nat} {ask : List Nat → Option Nat}
abbrev Itm := List Nat × Pl
noncomputable def kidz (R : List Nat) (t : Nat → Nat → List Sd) (x : Nat) (P : List Nat) : List Itm := (pi t (les P x)).map fun Q => (Q, some (x, (ovr R t x Q).headD 0))
noncomputable def hrun (R : List Nat) (t : Nat → Nat → List Sd) (ask : List Nat → Option Nat) : Nat → List Itm → List (Nat × Pl) → Option (List Itm × List (Nat × Pl))
  | 0, W, D => some (W, D)
  | _ + 1, [], D => some ([], D)
  | k + 1, i :: W, D => match ask i.1 with
    | none => none
    | some x => hrun R t ask k ((kidz R t x i.1).reverse ++ W) (D ++ [(x, i.2)])
def HOk (R : List Nat) (t : Nat → Nat → List Sd) (ask : List Nat → Option Nat) (i : Itm) (m : List (Nat × Pl)) : Prop := ∀ W D, hrun R t ask i.1.length (i :: W) D = some (W, D ++ m)
def hsz (I : List Itm) : Nat := (I.map fun i => i.1.length).sum
end
end Lib
namespace Lib
open PySem PySem.Spec PyProof.Rows L2 DN
variable {Xp : EP}
section
variable {Q : PV → Store → Prop} {st : Store} {R : List Nat} {S : List Sy} {x y n s : Nat} {p f : PV} {t : Nat → Nat → List Sd} {L : List Nat} {F : List Pl} {es : List (List Key × PV)}
end
end Lib
namespace Lib
open PySem PySem.Spec PyProof.Rows L2 DN
variable {Xp : EP}
section
variable {Q : PV → Store → Prop} {st : Store} {R : List Nat} {S : List Sy} {x y n s : Nat} {p f : PV} {t : Nat → Nat → List Sd} {L : List Nat} {F : List Pl} {es : List (List Key × PV)}
end
end Lib
namespace Lib
open PySem PySem.Spec PyProof.Rows L2 DN
variable {Xp : EP}
section
variable {Q : PV → Store → Prop} {st : Store} {R : List Nat} {S : List Sy} {x y n s : Nat} {p f : PV} {t : Nat → Nat → List Sd} {L : List Nat} {F : List Pl} {es : List (List Key × PV)}
end
end Lib
namespace Lib
open PySem PySem.Spec PyProof.Rows L2 DN
variable {Xp : EP}
section
variable {Q : PV → Store → Prop} {st : Store} {R : List Nat} {S : List Sy} {x y n s : Nat} {p f : PV} {t : Nat → Nat → List Sd} {L : List Nat} {F : List Pl} {es : List (List Key × PV)}
end
end Lib
namespace Lib
open PySem PySem.Spec PyProof.Rows L2 DN
variable {Xp : EP}
section
variable {Q : PV → Store → Prop} {st : Store} {R : List Nat} {S : List Sy} {x y n s : Nat} {p f : PV} {t : Nat → Nat → List Sd} {L : List Nat} {F : List Pl} {es : List (List Key × PV)}
end
end Lib
namespace Lib
open PySem PySem.Spec PyProof.Rows L2 DN
variable {Xp : EP}
section
variable {Q : PV → Store → Prop} {st : Store} {R : List Nat} {S : List Sy} {x y n s : Nat} {p f : PV} {t : Nat → Nat → List Sd} {L : List Nat} {F : List Pl} {es : List (List Key × PV)}
end
end Lib
namespace Lib
open PySem PySem.Spec PyProof.Rows L2 DN
variable {Xp : EP}
section
variable {Q : PV → Store → Prop} {QI : Src → Store → Prop} {st : Store} {R : List Nat} {S : List Sy} {x y n s : Nat} {p f : PV} {t : Nat → Nat → List Sd} {L : List Nat} {F : List Pl} {es : List (List Key × PV)} {σ : AE}
@[simp] theorem wp_iZip2 {f g : DE} : (wpX Xp) (iZip2 (dAc f (dAc g dA0)) σ st) QI = (wpX Xp) (f σ st) fun p st => (wpX Xp) (g σ st) fun q st => (wpX Xp) (srcZip p q st) QI := by
  simp [iZip2]
end
end Lib
namespace Lib
open PySem PySem.Spec PyProof.Rows L2 DN
variable {Xp : EP}
section
variable {Q : PV → Store → Prop} {QI : Src → Store → Prop} {st : Store} {R : List Nat} {S : List Sy} {x y n s : Nat} {p f : PV} {t : Nat → Nat → List Sd} {L : List Nat} {F : List Pl} {es : List (List Key × PV)} {σ : AE}
@[simp] theorem wp_isBB {a b : Bool} : (wpX Xp) (pIs (.bl a) (.bl b) st) Q = Q (.bl (decide (a = b))) st := by unfold wpX; rfl
@[simp] theorem wp_isNotBB {a b : Bool} : (wpX Xp) (pIsNot (.bl a) (.bl b) st) Q = Q (.bl (!decide (a = b))) st := by unfold wpX; rfl
end
end Lib
namespace Lib
open PySem PySem.Spec PyProof.Rows L2 DN
variable {Xp : EP}
section
variable {Q : PV → Store → Prop} {QI : Src → Store → Prop} {st : Store} {R : List Nat} {S : List Sy} {x y n s : Nat} {p f : PV} {t : Nat → Nat → List Sd} {L O : List Nat} {F : List Pl} {es : List (List Key × PV)} {σ : AE}
end
end Lib
set_option maxHeartbeats 4000000
namespace Lib
open PySem PySem.Spec PyProof.Rows L2 DN
variable {Xp : EP}
section
variable {Q : PV → Store → Prop} {st : Store} {R : List Nat} {S C : List Sy} {x y n s k : Nat} {z : Sy} {F : List Pl} {L P : List Nat} {es : List (List Key × PV)} {t : Nat → Nat → List Sd} {p : PV} {σ : AE}
theorem wps_skip {N : AE → Store → Prop} {Rr : PV → Store → Prop} {B C : AE → Store → Prop} {σ : AE} {st : Store} {c : DB} {g : DS} (h : (wpX Xp) (c σ st) fun b st' => b = false ∧ st' = st) (q : N σ st) : (wpsX Xp) (sIf c g sNext σ st) N Rr B C := by
  rw [wps_if]
  refine wp_mono h fun b st' h => ?_
  obtain ⟨rfl, rfl⟩ := h
  simpa using q
@[simp] theorem wp_dApM {QL : List PV → Store → Prop} {m : Nat} {f g : DA} : (wpX Xp) (dApM m f g σ st) QL = (wpX Xp) (f σ st) fun ps st => ps.length = m ∧ (wpX Xp) (g σ st) fun qs st => QL (ps ++ qs) st := by
  simp only [dApM, wp_bind]
  congr 1; funext ps st
  by_cases h : ps.length = m <;> simp [h]
theorem wps_ifB {N : AE → Store → Prop} {Rr : PV → Store → Prop} {B C : AE → Store → Prop} {σ : AE} {st : Store} {c : DB} {f g : DS} (b0 : Bool) (h : (wpX Xp) (c σ st) fun b st' => b = b0 ∧ st' = st) (q1 : b0 = true → (wpsX Xp) (f σ st) N Rr B C) (q2 : b0 = false → (wpsX Xp) (g σ st) N Rr B C) : (wpsX Xp) (sIf c f g σ st) N Rr B C := by
  rw [wps_if]
  refine wp_mono h fun b st' h => ?_
  obtain ⟨rfl, rfl⟩ := h
  exact ⟨q1, q2⟩
theorem lenR {X : EP} {Q : PV → Store → Prop} {st : Store} : wpX X (qLen [rv R] st) Q = Q (.int R.length) st := by simp [rv]
theorem ixRv {X : EP} {Q : PV → Store → Prop} {st : Store} (hx : x < R.length) : wpX X (pIx (rv R) (.int x) st) Q = Q (.int (rm R x)) st := by
  simp [rv, atI_rv hx]
theorem ixFv {X : EP} {Q : PV → Store → Prop} {st : Store} (hx : x < F.length) : wpX X (pIx (fv F) (.int x) st) Q = Q (pv (up F x)) st := by
  simp [fv, atI_fv hx]
end
end Lib
set_option maxHeartbeats 2000000
namespace Lib
open PySem PySem.Spec PyProof.Rows L2 DN
abbrev Ch := List Nat → Nat → (List Nat → Nat) → Prop
def N0 (R : List Nat) (t : Nat → Nat → List Sd) : Ch := fun L x g => x ∈ L ∧ ∀ P ∈ pi t (les L x), g P ∈ ovr R t x P
inductive Tr (t : Nat → Nat → List Sd) (N : Ch) (F : List Pl) : List Nat → Pl → Prop where
  | mk {L : List Nat} {pl : Pl} (x : Nat) (g : List Nat → Nat) : N L x g → up F x = pl → (∀ P ∈ pi t (les L x), Tr t N F P (some (x, g P))) → Tr t N F L pl
inductive Lay (t : Nat → Nat → List Sd) (N : Ch) : List Nat → Pl → List (Nat × Pl) → Prop where
  | mk {L : List Nat} {pl : Pl} {m : List (Nat × Pl)} (x : Nat) (g : List Nat → Nat) (ms : List Nat → List (Nat × Pl)) : N L x g → (∀ P ∈ pi t (les L x), Lay t N P (some (x, g P)) (ms P)) → m.Perm ((x, pl) :: (pi t (les L x)).flatMap ms) → Lay t N L pl m
section
variable {F G : List Pl} {R : List Nat} {x y z n : Nat} {t : Nat → Nat → List Sd} {L : List Nat} {N N' : Ch} {pl : Pl} {m : List (Nat × Pl)}
theorem Tr.mono (h : Tr t N F L pl) (i : ∀ L x g, N L x g → N' L x g) : Tr t N' F L pl := by
  induction h with
  | mk x g h1 h2 h3 ih => exact .mk x g (i _ _ _ h1) h2 ih
theorem Lay.mono (h : Lay t N L pl m) (i : ∀ L x g, N L x g → N' L x g) : Lay t N' L pl m := by
  induction h with
  | mk x g ms h1 h2 h3 ih => exact .mk x g ms (i _ _ _ h1) ih h3
theorem Lay.perm {m' : List (Nat × Pl)} (h : Lay t N L pl m) (p : m'.Perm m) : Lay t N L pl m' := by
  cases h with
  | mk x g ms h1 h2 h3 => exact .mk x g ms h1 h2 (p.trans h3)
theorem les_perm (hd : L.Nodup) (hx : x ∈ L) : (x :: les L x).Perm L := by
  unfold les
  rw [show (L.filter fun y => !decide (y = x)) = L.erase x by rw [hd.erase_eq_filter]; exact List.filter_congr fun a _ => by simp [bne]; by_cases h : a = x <;> simp [h]]
  exact (List.perm_cons_erase hx).symm
theorem flatMap_keys {Ps : List (List Nat)} {ms : List Nat → List (Nat × Pl)} (h : ∀ P ∈ Ps, ((ms P).map (·.1)).Perm P) : ((Ps.flatMap ms).map (·.1)).Perm Ps.flatten := by
  induction Ps with
  | nil => exact .refl _
  | cons P Ps ih =>
    simp only [List.flatMap_cons, List.map_append, List.flatten_cons]
    exact (h P (by simp)).append (ih fun Q hQ => h Q (by simp [hQ]))
theorem Lay.keys (i : ∀ L x g, N L x g → N0 R t L x g) (h : Lay t N L pl m) (hL : L.Nodup) : (m.map (·.1)).Perm L := by
  induction h with
  | @mk L pl m x g ms h1 h2 h3 ih =>
    have hx := (i _ _ _ h1).1
    refine (h3.map _).trans ?_
    rw [List.map_cons]
    refine .trans (.cons _ ((flatMap_keys fun P hP => ih P hP ?_).trans pi_perm)) (les_perm hL hx)
    have := (pi_perm (t := t) (L := les L x)).nodup_iff.mpr (les_nodup hL)
    exact flat_nodup this hP
theorem Lay.tr (h : Lay t N L pl m) : Agree F m → Tr t N F L pl := by
  induction h with
  | @mk L pl m x g ms h1 h2 h3 ih =>
    intro ag
    refine .mk x g h1 (ag x pl (h3.mem_iff.mpr (by simp))) fun P hP => ih P hP fun y p hy => ag y p (h3.mem_iff.mpr ?_)
    exact List.mem_cons_of_mem _ (List.mem_flatMap.mpr ⟨P, hP, hy⟩)
theorem pi_of (hs : Sym t) {P : List Nat} (hP : P ∈ pi t L) {a : Nat} (ha : a ∈ P) : P = cmp t L a := by
  obtain ⟨u, hu, rfl⟩ := (mem_pi hs).mp hP
  exact cmp_congr hs hu (mem_cmp.mp ha).2
theorem pi_same (hs : Sym t) {P P' : List Nat} (hP : P ∈ pi t L) (hP' : P' ∈ pi t L) {a : Nat} (ha : a ∈ P) (ha' : a ∈ P') : P = P' := by
  rw [pi_of hs hP ha, pi_of hs hP' ha']
theorem pi_in {a : Nat} (ha : a ∈ L) : ∃ P ∈ pi t L, a ∈ P := List.mem_flatten.mp ((pi_perm (t := t)).mem_iff.mpr ha)
theorem pi_les (hd : L.Nodup) (hx : x ∈ L) {P : List Nat} (hP : P ∈ pi t (les L x)) : P.length < L.length := by
  have h1 := pi_len hP
  have h2 := les_len hd hx
  omega
theorem Tr.rank (hs : Sym t) (i : ∀ L x g, N L x g → N0 R t L x g) (h : Tr t N F L pl) : L.Nodup → ∃ g : Nat → Nat, ∀ y ∈ L, g y ≤ L.length ∧ (up F y = pl ∨ ∃ x r, up F y = some (x, r) ∧ x ∈ L ∧ x ≠ y ∧ r < rm R x ∧ g y < g x) := by
  induction h with
  | @mk L pl x g h1 h2 h3 ih =>
    intro hL
    obtain ⟨hx, hg⟩ := i _ _ _ h1
    have hnd := (pi_perm (t := t) (L := les L x)).nodup_iff.mpr (les_nodup hL)
    have : ∀ P, ∃ gP : Nat → Nat, P ∈ pi t (les L x) → ∀ y ∈ P, gP y ≤ P.length ∧ (up F y = some (x, g P) ∨ ∃ x r, up F y = some (x, r) ∧ x ∈ P ∧ x ≠ y ∧ r < rm R x ∧ gP y < gP x) := fun P => by
      by_cases hP : P ∈ pi t (les L x)
      · obtain ⟨gP, h⟩ := ih P hP (flat_nodup hnd hP)
        exact ⟨gP, fun _ => h⟩
      · exact ⟨fun _ => 0, fun h => absurd h hP⟩
    obtain ⟨q, hq⟩ := Classical.skolem.mp this
    refine ⟨fun y => if y = x then L.length else q (cmp t (les L x) y) y, fun y hy => ?_⟩
    by_cases e : y = x
    · subst e
      exact ⟨by simp, .inl h2⟩
    · obtain ⟨P, hP, hyP⟩ := pi_in (t := t) (les_mem.mpr ⟨hy, e⟩)
      have hl := pi_les hL hx hP
      have e1 : ∀ z ∈ P, (if z = x then L.length else q (cmp t (les L x) z) z) = q P z := fun z hz => by
        rw [if_neg (les_mem.mp (pi_sub hP z hz)).2, ← pi_of hs hP hz]
      obtain ⟨k1, k2⟩ := hq P hP y hyP
      simp only [e1 y hyP]
      refine ⟨by omega, .inr ?_⟩
      rcases k2 with k2 | ⟨u, r, k3, k4, k5, k6, k7⟩
      · exact ⟨x, g P, k2, hx, Ne.symm e, (mem_ovr.mp (hg P hP)).1, by simp; omega⟩
      · exact ⟨u, r, k3, (les_mem.mp (pi_sub hP u k4)).1, k5, k6, by rw [e1 u k4]; exact k7⟩
def TrA (R : List Nat) (t : Nat → Nat → List Sd) (N : Ch) (F : List Pl) : Prop := F.length = R.length ∧ ∀ P ∈ pi t (List.range R.length), Tr t N F P none
theorem TrA.mono (h : TrA R t N F) (i : ∀ L x g, N L x g → N' L x g) : TrA R t N' F := ⟨h.1, fun P hP => (h.2 P hP).mono i⟩
theorem okL_range : okL n (List.range n) := ⟨List.pairwise_lt_range, fun a ha => by simpa using ha⟩
theorem TrA.fo (hs : Sym t) (i : ∀ L x g, N L x g → N0 R t L x g) (h : TrA R t N F) : okF R F ∧ Fo F := by
  obtain ⟨hl, h⟩ := h
  have hnd := (pi_perm (t := t) (L := List.range R.length)).nodup_iff.mpr List.nodup_range
  have : ∀ P, ∃ gP : Nat → Nat, P ∈ pi t (List.range R.length) → ∀ y ∈ P, gP y ≤ P.length ∧ (up F y = none ∨ ∃ x r, up F y = some (x, r) ∧ x ∈ P ∧ x ≠ y ∧ r < rm R x ∧ gP y < gP x) := fun P => by
    by_cases hP : P ∈ pi t (List.range R.length)
    · obtain ⟨gP, h⟩ := (h P hP).rank hs i (flat_nodup hnd hP)
      exact ⟨gP, fun _ => h⟩
    · exact ⟨fun _ => 0, fun h => absurd h hP⟩
  obtain ⟨q, hq⟩ := Classical.skolem.mp this
  have key : ∀ y, y < R.length → q (cmp t (List.range R.length) y) y ≤ R.length ∧ (up F y = none ∨ ∃ x r, up F y = some (x, r) ∧ x < R.length ∧ x ≠ y ∧ r < rm R x ∧ q (cmp t (List.range R.length) y) y < q (cmp t (List.range R.length) x) x) := fun y hy => by
    obtain ⟨P, hP, hyP⟩ := pi_in (t := t) (L := List.range R.length) (by simpa using hy)
    have hl := pi_len hP
    simp only [List.length_range] at hl
    obtain ⟨k1, k2⟩ := hq P hP y hyP
    rw [← pi_of hs hP hyP]
    refine ⟨by omega, k2.imp id fun ⟨u, r, k3, k4, k5, k6, k7⟩ => ⟨u, r, k3, by simpa using pi_sub hP u k4, k5, k6, ?_⟩⟩
    rw [← pi_of hs hP k4]
    exact k7
  have hF : okF R F := ⟨hl, fun y hy h eu => by
    rcases (key y (by omega)).2 with k | ⟨u, r, k3, k4, k5, k6, _⟩
    · rw [k] at eu; cases eu
    · rw [k3] at eu; cases eu; exact ⟨k4, k5, k6⟩⟩
  refine ⟨hF, hF.wf, noR_rank hF.wf (fun y => R.length - q (cmp t (List.range R.length) y) y) fun y h eu => ?_⟩
  have hy : y < R.length := by
    refine Classical.byContradiction fun c => ?_
    unfold up at eu
    rw [List.getElem?_eq_none (by omega)] at eu
    cases eu
  rcases (key y hy).2 with k | ⟨u, r, k3, k4, k5, k6, k7⟩
  · rw [k] at eu; cases eu
  · rw [k3] at eu; cases eu
    have k8 := (key u k4).1
    have k9 := (key y hy).1
    dsimp only
    omega
theorem Tr.std (o : Fo F) (T : TabOk R t) (i : ∀ L x g, N L x g → N0 R t L x g) (h : Tr t N F L pl) : okL F.length L → (∀ q, pl = some q → q.1 ∉ L ∧ ∀ g ∈ An F q.1, g.1 ∉ L) →
    (∀ a ∈ L, (∀ h ∈ An F a, h.1 ∈ L ∨ ∃ q, pl = some q ∧ (h = q ∨ h ∈ An F q.1)) ∧ ∀ q, pl = some q → q ∈ An F a) ∧ ∀ a ∈ L, ∀ b ∈ L, a ≠ b → Lib.std F a b ∈ t a b := by
  have hs := T.sym
  induction h with
  | @mk L pl x g h1 ux h3 ihh =>
    intro hL hq
    obtain ⟨hx, hf⟩ := i _ _ _ h1
    have lt : ∀ a ∈ L, a < F.length := hL.2
    have anx : ∀ g ∈ An F x, g.1 ∉ L ∧ ∃ q, pl = some q ∧ (g = q ∨ g ∈ An F q.1) := fun g hg => by
      cases e : pl with
      | none => rw [An_none (by rw [ux, e])] at hg; cases hg
      | some q =>
        rw [An_some o (lt x hx) (by rw [ux, e])] at hg
        obtain ⟨q1, q2⟩ := hq q e
        rcases List.mem_cons.mp hg with rfl | hg
        · exact ⟨q1, _, rfl, .inl rfl⟩
        · exact ⟨q2 g hg, _, rfl, .inr hg⟩
    have qx : ∀ q, pl = some q → q ∈ An F x := fun q e => by
      rw [An_some o (lt x hx) (by rw [ux, e])]; simp
    have sub : ∀ P ∈ pi t (les L x), ∀ a ∈ P, a ∈ L ∧ a ≠ x := fun P hP a ha => les_mem.mp (pi_sub hP a ha)
    have ih : ∀ P ∈ pi t (les L x), (∀ a ∈ P, (∀ h ∈ An F a, h.1 ∈ P ∨ h = (x, g P) ∨ h ∈ An F x) ∧ (x, g P) ∈ An F a) ∧ ∀ a ∈ P, ∀ b ∈ P, a ≠ b → Lib.std F a b ∈ t a b := fun P hP => by
      obtain ⟨i1, i2⟩ := ihh P hP (okL_pi (okL_les hL) hP) fun q e => by
        cases e
        exact ⟨fun h => (sub P hP x h).2 rfl, fun g hg h => (anx g hg).1 (sub P hP g.1 h).1⟩
      refine ⟨fun a ha => ⟨fun h hh => ?_, (i1 a ha).2 _ rfl⟩, i2⟩
      rcases (i1 a ha).1 h hh with h1 | ⟨q, e, h1⟩
      · exact .inl h1
      · cases e; exact .inr h1
    have inP : ∀ a ∈ L, a ≠ x → ∃ P ∈ pi t (les L x), a ∈ P := fun a ha hne => pi_in (les_mem.mpr ⟨ha, hne⟩)
    have ov : ∀ P ∈ pi t (les L x), ∀ b ∈ P, .aro (g P) ∈ t x b := fun P hP b hb => (mem_ovr.mp (hf P hP)).2 b hb
    refine ⟨fun a ha => ?_, fun a ha b hb hne => ?_⟩
    · by_cases hax : a = x
      · subst hax
        exact ⟨fun h hh => .inr (anx h hh).2, qx⟩
      · obtain ⟨P, hP, haP⟩ := inP a ha hax
        obtain ⟨j1, j2⟩ := (ih P hP).1 a haP
        refine ⟨fun h hh => ?_, fun q e => An_trans o (lt a ha) j2 (qx q e)⟩
        rcases j1 h hh with h1 | h1 | h1
        · exact .inl (sub P hP h.1 h1).1
        · exact .inl (by rw [h1]; exact hx)
        · exact .inr (anx h h1).2
    · by_cases hax : a = x
      · subst hax
        obtain ⟨P, hP, hbP⟩ := inP b hb (Ne.symm hne)
        rw [std_aro o (lt a ha) (lt b hb) ((ih P hP).1 b hbP).2]
        exact ov P hP b hbP
      · obtain ⟨P, hP, haP⟩ := inP a ha hax
        obtain ⟨j1, j2⟩ := (ih P hP).1 a haP
        by_cases hbx : b = x
        · subst hbx
          rw [std_inn o (lt a ha) j2, T.turn b a]
          exact ov P hP a haP
        · by_cases hbP : b ∈ P
          · exact (ih P hP).2 a haP b hbP hne
          · obtain ⟨P', hP', hbP'⟩ := inP b hb hbx
            obtain ⟨l1, l2⟩ := (ih P' hP').1 b hbP'
            have haP' : a ∉ P' := fun h => hbP (by rw [pi_same hs hP hP' haP h]; exact hbP')
            have s1 : ∀ r, (b, r) ∉ An F a := fun r m => by
              rcases j1 _ m with h1 | h1 | h1
              · exact hbP h1
              · simp only [Prod.mk.injEq] at h1; exact hbx h1.1
              · exact (anx _ h1).1 hb
            have s2 : ∀ r, (a, r) ∉ An F b := fun r m => by
              rcases l1 _ m with h1 | h1 | h1
              · exact haP' h1
              · simp only [Prod.mk.injEq] at h1; exact hax h1.1
              · exact (anx _ h1).1 ha
            rw [std_ap s1 s2]
            refine Classical.byContradiction fun c => hbP (pi_apart hs hP hP' haP hbP' hne ?_)
            simp [lk, c]
theorem TrA.inn (T : TabOk R t) (i : ∀ L x g, N L x g → N0 R t L x g) (h : TrA R t N F) {P : List Nat} (hP : P ∈ pi t (List.range R.length)) : (∀ a ∈ P, ∀ h ∈ An F a, h.1 ∈ P) ∧ ∀ a ∈ P, ∀ b ∈ P, a ≠ b → Lib.std F a b ∈ t a b := by
  obtain ⟨hF, o⟩ := h.fo T.sym i
  obtain ⟨i1, i2⟩ := (h.2 P hP).std o T i (by rw [h.1]; exact okL_pi okL_range hP) (fun q e => by cases e)
  refine ⟨fun a ha h hh => ?_, i2⟩
  rcases (i1 a ha).1 h hh with h1 | ⟨q, e, _⟩
  · exact h1
  · cases e
theorem TrA.lets (T : TabOk R t) (i : ∀ L x g, N L x g → N0 R t L x g) (h : TrA R t N F) : Lets R t F := by
  have hs := T.sym
  obtain ⟨hF, o⟩ := h.fo hs i
  refine ⟨hF, o, fun a b ha hb hne => ?_⟩
  obtain ⟨P, hP, haP⟩ := pi_in (t := t) (L := List.range R.length) (by simpa using ha)
  obtain ⟨P', hP', hbP'⟩ := pi_in (t := t) (L := List.range R.length) (by simpa using hb)
  by_cases hbP : b ∈ P
  · exact (h.inn T i hP).2 a haP b hbP hne
  · have haP' : a ∉ P' := fun h => hbP (by rw [pi_same hs hP hP' haP h]; exact hbP')
    rw [std_ap (fun r m => hbP ((h.inn T i hP).1 a haP _ m)) (fun r m => haP' ((h.inn T i hP').1 b hbP' _ m))]
    refine Classical.byContradiction fun c => hbP (pi_apart hs hP hP' haP hbP' hne ?_)
    simp [lk, c]
theorem lay_all (i : ∀ L x g, N L x g → N0 R t L x g) {ms : List Nat → List (Nat × Pl)} (h : ∀ P ∈ pi t (List.range R.length), Lay t N P none (ms P)) (hm : m.Perm ((pi t (List.range R.length)).flatMap ms)) : TrA R t N (plF R.length m) ∧ (m.map (·.1)).Perm (List.range R.length) := by
  have hnd := (pi_perm (t := t) (L := List.range R.length)).nodup_iff.mpr List.nodup_range
  have keys : (m.map (·.1)).Perm (List.range R.length) := (hm.map _).trans ((flatMap_keys fun P hP => (h P hP).keys i (flat_nodup hnd hP)).trans pi_perm)
  have nd : (m.map (·.1)).Nodup := keys.nodup_iff.mpr List.nodup_range
  refine ⟨⟨by simp [plF], fun P hP => (h P hP).tr fun y p hy => ?_⟩, keys⟩
  have hy' : (y, p) ∈ m := hm.mem_iff.mpr (List.mem_flatMap.mpr ⟨P, hP, hy⟩)
  have hyn : y < R.length := by simpa using keys.mem_iff.mp (List.mem_map.mpr ⟨_, hy', rfl⟩)
  rw [up_plF hyn, look_mem nd hy']
  rfl
end
end Lib
namespace Lib
open PySem PySem.Spec PyProof.Rows L2 DN
section
variable {F G H : List Pl} {R : List Nat} {x y z n : Nat} {t : Nat → Nat → List Sd} {L : List Nat} {N N' : Ch} {pl : Pl} {m : List (Nat × Pl)}
def wbB (F : List Pl) (x y : Nat) : Bool := decide (y = x) || (An F y).any fun h => decide (h.1 = x)
def wbn (F : List Pl) (x : Nat) : List Nat := (List.range F.length).filter (wbB F x)
theorem mem_wbn : y ∈ wbn F x ↔ y < F.length ∧ (y = x ∨ ∃ r, (x, r) ∈ An F y) := by
  unfold wbn wbB
  simp only [List.mem_filter, List.mem_range, Bool.or_eq_true, decide_eq_true_eq, List.any_eq_true]
  refine and_congr_right fun _ => or_congr_right ⟨fun ⟨h, h1, h2⟩ => ⟨h.2, by rw [← h2]; exact h1⟩, fun ⟨r, h⟩ => ⟨_, h, rfl⟩⟩
theorem wbn_ok : okL F.length (wbn F x) := ⟨asc_filter List.pairwise_lt_range, fun a ha => (mem_wbn.mp ha).1⟩
theorem wbn_self (hx : x < F.length) : x ∈ wbn F x := mem_wbn.mpr ⟨hx, .inl rfl⟩
def Lst (R : List Nat) (t : Nat → Nat → List Sd) (F : List Pl) : Prop := Lets R t F ∧ ∀ x, x < F.length → conn t (wbn F x)
theorem An_irr (o : Fo F) (hx : x < F.length) {r : Nat} : (x, r) ∉ An F x := fun h => by
  have := An_nd o hx
  simp only [List.nodup_cons] at this
  exact this.1 (List.mem_map.mpr ⟨_, h, rfl⟩)
theorem An_asym (o : Fo F) (hx : x < F.length) {r q : Nat} (h1 : (y, r) ∈ An F x) (h2 : (x, q) ∈ An F y) : False := An_irr o hx (An_trans o hx h1 h2)
theorem Tr.node (o : Fo F) (T : TabOk R t) (i : ∀ L x g, N L x g → N0 R t L x g) (h : Tr t N F L pl) : okL F.length L → conn t L → (∀ q, pl = some q → q.1 ∉ L ∧ ∀ g ∈ An F q.1, g.1 ∉ L) →
    ∀ y ∈ L, ∃ L', Tr t N F L' (up F y) ∧ okL F.length L' ∧ conn t L' ∧ y ∈ L' ∧ (∀ z ∈ L', z ∈ L) ∧ ∀ z ∈ L, (z ∈ L' ↔ z = y ∨ ∃ r, (y, r) ∈ An F z) := by
  have hs := T.sym
  induction h with
  | @mk L pl x g h1 ux h3 ihh =>
    intro hL hcn hq y hy
    obtain ⟨hx, hf⟩ := i _ _ _ h1
    have hT : Tr t N F L pl := .mk x g h1 ux h3
    obtain ⟨i1, i2⟩ := hT.std o T i hL hq
    have lt : ∀ a ∈ L, a < F.length := hL.2
    have anx : ∀ g ∈ An F x, g.1 ∉ L := fun g hg => by
      cases e : pl with
      | none => rw [An_none (by rw [ux, e])] at hg; cases hg
      | some q =>
        rw [An_some o (lt x hx) (by rw [ux, e])] at hg
        obtain ⟨q1, q2⟩ := hq q e
        rcases List.mem_cons.mp hg with rfl | hg
        · exact q1
        · exact q2 g hg
    have sub : ∀ P ∈ pi t (les L x), ∀ a ∈ P, a ∈ L ∧ a ≠ x := fun P hP a ha => les_mem.mp (pi_sub hP a ha)
    have hctx : ∀ P ∈ pi t (les L x), ∀ q, some (x, g P) = some q → q.1 ∉ P ∧ ∀ h ∈ An F q.1, h.1 ∉ P := fun P hP q e => by
      cases e
      exact ⟨fun h => (sub P hP x h).2 rfl, fun g hg h => anx g hg (sub P hP g.1 h).1⟩
    have inx : ∀ P ∈ pi t (les L x), ∀ a ∈ P, (∀ h ∈ An F a, h.1 ∈ P ∨ h = (x, g P) ∨ h ∈ An F x) ∧ (x, g P) ∈ An F a := fun P hP a ha => by
      obtain ⟨j1, _⟩ := (h3 P hP).std o T i (okL_pi (okL_les hL) hP) (hctx P hP)
      refine ⟨fun h hh => ?_, (j1 a ha).2 _ rfl⟩
      rcases (j1 a ha).1 h hh with h1 | ⟨q, e, h1⟩
      · exact .inl h1
      · cases e; exact .inr h1
    by_cases e : y = x
    · subst e
      refine ⟨L, by rw [ux]; exact hT, hL, hcn, hy, fun z hz => hz, fun z hz => ⟨fun _ => ?_, fun _ => hz⟩⟩
      by_cases ez : z = y
      · exact .inl ez
      · obtain ⟨P, hP, hzP⟩ := pi_in (t := t) (les_mem.mpr ⟨hz, ez⟩)
        exact .inr ⟨_, (inx P hP z hzP).2⟩
    · obtain ⟨P, hP, hyP⟩ := pi_in (t := t) (les_mem.mpr ⟨hy, e⟩)
      obtain ⟨L', k1, k2, k3, k4, k5, k6⟩ := ihh P hP (okL_pi (okL_les hL) hP) (conn_pi hs hP) (hctx P hP) y hyP
      refine ⟨L', k1, k2, k3, k4, fun z hz => (sub P hP z (k5 z hz)).1, fun z hz => ?_⟩
      by_cases hzP : z ∈ P
      · exact k6 z hzP
      · refine ⟨fun h => absurd (k5 z h) hzP, fun h => ?_⟩
        rcases h with rfl | ⟨r, h⟩
        · exact absurd hyP hzP
        · exfalso
          by_cases ez : z = x
          · subst ez
            exact anx _ h hy
          · obtain ⟨P', hP', hzP'⟩ := pi_in (t := t) (les_mem.mpr ⟨hz, ez⟩)
            rcases (inx P' hP' z hzP').1 _ h with q | q | q
            · exact hzP (by rw [pi_same hs hP hP' hyP q]; exact hzP')
            · simp only [Prod.mk.injEq] at q; exact e q.1
            · exact anx _ q hy
theorem TrA.node (T : TabOk R t) (i : ∀ L x g, N L x g → N0 R t L x g) (h : TrA R t N F) (hx : x < R.length) : Tr t N F (wbn F x) (up F x) ∧ conn t (wbn F x) := by
  have hs := T.sym
  obtain ⟨hF, o⟩ := h.fo hs i
  obtain ⟨P, hP, hxP⟩ := pi_in (t := t) (L := List.range R.length) (by simpa using hx)
  obtain ⟨L', k1, k2, k3, k4, k5, k6⟩ := (h.2 P hP).node o T i (by rw [h.1]; exact okL_pi okL_range hP) (conn_pi hs hP) (fun q e => by cases e) x hxP
  have e : L' = wbn F x := asc_ext k2.1 wbn_ok.1 fun z => by
    constructor
    · intro hz
      exact mem_wbn.mpr ⟨k2.2 z hz, (k6 z (k5 z hz)).mp hz⟩
    · intro hz
      obtain ⟨h1, h2⟩ := mem_wbn.mp hz
      have hzP : z ∈ P := by
        rcases h2 with rfl | ⟨r, h2⟩
        · exact hxP
        · obtain ⟨P', hP', hzP'⟩ := pi_in (t := t) (L := List.range R.length) (a := z) (by simpa [← h.1] using h1)
          have := (h.inn T i hP').1 z hzP' _ h2
          rw [pi_same hs hP hP' hxP this]
          exact hzP'
      exact (k6 z hzP).mpr h2
  rw [← e]
  exact ⟨k1, k3⟩
theorem TrA.lst (T : TabOk R t) (i : ∀ L x g, N L x g → N0 R t L x g) (h : TrA R t N F) : Lst R t F := ⟨h.lets T i, fun x hx => (h.node T i (by rw [← h.1]; exact hx)).2⟩
theorem comp_top (T : TabOk R t) (hFl : Lets R t F) (hc : ∀ x, x < F.length → conn t (wbn F x)) {M : List Nat} {C : Nat → Prop} (hMl : ∀ a ∈ M, a < F.length) (hM : ∀ a ∈ M, ∃ c, C c ∧ a ∈ wbn F c) (hC : ∀ c, C c → c < F.length ∧ ∀ v ∈ wbn F c, v ∈ M) (hN : ∀ c, C c → ∀ v ∈ M, ∀ r, (v, r) ∉ An F c)
    (hMo : M.Pairwise (· < ·)) {P : List Nat} (hP : P ∈ pi t M) : ∃ c, C c ∧ P = wbn F c := by
  have hs := T.sym
  obtain ⟨hF, o, hl⟩ := hFl
  obtain ⟨a, ha, rfl⟩ := (mem_pi hs).mp hP
  obtain ⟨c, hCc, hac⟩ := hM a ha
  obtain ⟨hcl, hcM⟩ := hC c hCc
  refine ⟨c, hCc, asc_ext (asc_filter hMo) wbn_ok.1 fun z => ?_⟩
  rw [mem_cmp]
  constructor
  · rintro ⟨_, hr⟩
    induction hr with
    | refl => exact hac
    | @step u v h1 h2 h3 h4 ih =>
      have hu := ih (h1.memL ha)
      obtain ⟨hul, hu⟩ := mem_wbn.mp hu
      have hvl := hMl v h2
      have nap : Lib.std F u v ≠ .ap := fun e => by
        have := hl u v (by rw [← hF.1]; exact hul) (by rw [← hF.1]; exact hvl) (Ne.symm h3)
        rw [e] at this
        simp [lk, this] at h4
      refine mem_wbn.mpr ⟨hvl, ?_⟩
      rcases std_not_ap nap with ⟨r, m⟩ | ⟨r, m⟩
      · rcases hu with rfl | ⟨q, hu⟩
        · exact absurd m (hN u hCc v h2 r)
        · rcases An_lin o hul m hu with e | e | e
          · simp only [Prod.mk.injEq] at e; exact .inl e.1
          · exact .inr ⟨q, e⟩
          · exact absurd e (hN c hCc v h2 r)
      · rcases hu with rfl | ⟨q, hu⟩
        · exact .inr ⟨r, m⟩
        · exact .inr ⟨q, An_trans o hvl m hu⟩
  · intro hz
    refine ⟨hcM z hz, (hc c hcl a hac z hz).sub hcM⟩
theorem An_below (o : Fo F) {a r : Nat} (ha : a < F.length) (h : (x, r) ∈ An F a) : ∃ c, c < F.length ∧ up F c = some (x, r) ∧ a ∈ wbn F c := by
  have : ∀ (k a : Nat), a < F.length → (An F a).length ≤ k → (x, r) ∈ An F a → ∃ c, c < F.length ∧ up F c = some (x, r) ∧ a ∈ wbn F c := by
    intro k
    induction k with
    | zero =>
      intro a ha hl h
      rw [List.length_eq_zero_iff.mp (Nat.le_zero.mp hl)] at h
      cases h
    | succ k ih =>
      intro a ha hl h
      cases e : up F a with
      | none => rw [An_none e] at h; cases h
      | some q =>
        have e2 := An_some o ha e
        rw [e2] at h hl
        rcases List.mem_cons.mp h with rfl | h
        · exact ⟨a, ha, e, wbn_self ha⟩
        · have hq := up_lt o e
          obtain ⟨c, h1, h2, h3⟩ := ih q.1 hq (by simp at hl; omega) h
          refine ⟨c, h1, h2, mem_wbn.mpr ⟨ha, .inr ?_⟩⟩
          rcases (mem_wbn.mp h3).2 with h3 | ⟨s, h3⟩
          · exact ⟨q.2, by rw [e2, ← h3]; simp⟩
          · exact ⟨s, by rw [e2]; exact List.mem_cons_of_mem _ h3⟩
  exact this _ a ha (Nat.le_refl _) h
theorem An_root (o : Fo F) {a : Nat} (ha : a < F.length) : ∃ c, c < F.length ∧ up F c = none ∧ a ∈ wbn F c := by
  have : ∀ (k a : Nat), a < F.length → (An F a).length ≤ k → ∃ c, c < F.length ∧ up F c = none ∧ a ∈ wbn F c := by
    intro k
    induction k with
    | zero =>
      intro a ha hl
      cases e : up F a with
      | none => exact ⟨a, ha, e, wbn_self ha⟩
      | some q => rw [An_some o ha e] at hl; simp at hl
    | succ k ih =>
      intro a ha hl
      cases e : up F a with
      | none => exact ⟨a, ha, e, wbn_self ha⟩
      | some q =>
        have e2 := An_some o ha e
        rw [e2] at hl
        have hq := up_lt o e
        obtain ⟨c, h1, h2, h3⟩ := ih q.1 hq (by simp at hl; omega)
        refine ⟨c, h1, h2, mem_wbn.mpr ⟨ha, .inr ?_⟩⟩
        rcases (mem_wbn.mp h3).2 with h3 | ⟨s, h3⟩
        · exact ⟨q.2, by rw [e2, ← h3]; simp⟩
        · exact ⟨s, by rw [e2]; exact List.mem_cons_of_mem _ h3⟩
  exact this _ a ha (Nat.le_refl _)
theorem Lst.kids (T : TabOk R t) (h : Lst R t F) (hx : x < F.length) {P : List Nat} (hP : P ∈ pi t (les (wbn F x) x)) : ∃ c r, up F c = some (x, r) ∧ c < F.length ∧ P = wbn F c ∧ r ∈ ovr R t x P := by
  obtain ⟨⟨hF, o, hl⟩, hc⟩ := h
  have hM : ∀ v, v ∈ les (wbn F x) x ↔ v < F.length ∧ ∃ r, (x, r) ∈ An F v := fun v => by
    rw [les_mem, mem_wbn]
    constructor
    · rintro ⟨⟨h1, h2⟩, h3⟩
      exact ⟨h1, h2.resolve_left h3⟩
    · rintro ⟨h1, r, h2⟩
      refine ⟨⟨h1, .inr ⟨r, h2⟩⟩, ?_⟩
      rintro rfl
      exact An_irr o h1 h2
  obtain ⟨c, ⟨hcl, r, hcu⟩, e⟩ := comp_top T ⟨hF, o, hl⟩ hc (M := les (wbn F x) x) (C := fun c => c < F.length ∧ ∃ r, up F c = some (x, r)) (fun a ha => ((hM a).mp ha).1) (fun a ha => by
      obtain ⟨h1, r, h2⟩ := (hM a).mp ha
      obtain ⟨c, h3, h4, h5⟩ := An_below o h1 h2
      exact ⟨c, ⟨h3, r, h4⟩, h5⟩) (fun c ⟨h1, r, h2⟩ => ⟨h1, fun v hv => by
      obtain ⟨h3, h4⟩ := mem_wbn.mp hv
      have hcx : (x, r) ∈ An F c := by rw [An_some o h1 h2]; simp
      refine (hM v).mpr ⟨h3, r, ?_⟩
      rcases h4 with rfl | ⟨q, h4⟩
      · exact hcx
      · exact An_trans o h3 h4 hcx⟩) (fun c ⟨h1, r, h2⟩ v hv q hq => by
      rw [An_some o h1 h2] at hq
      obtain ⟨h3, s, h4⟩ := (hM v).mp hv
      rcases List.mem_cons.mp hq with e | hq
      · simp only [Prod.mk.injEq] at e
        rw [e.1] at h4
        exact An_irr o hx h4
      · exact An_asym o hx hq h4) (asc_filter wbn_ok.1) hP
  refine ⟨c, r, hcu, hcl, e, mem_ovr.mpr ⟨(hF.2 c hcl _ hcu).2.2, fun y hy => ?_⟩⟩
  rw [e] at hy
  obtain ⟨h3, h4⟩ := mem_wbn.mp hy
  have hcx : (x, r) ∈ An F c := by rw [An_some o hcl hcu]; simp
  have hyx : (x, r) ∈ An F y := by
    rcases h4 with rfl | ⟨q, h4⟩
    · exact hcx
    · exact An_trans o h3 h4 hcx
  have hne : x ≠ y := by rintro rfl; exact An_irr o hx hyx
  have := hl x y (by rw [← hF.1]; exact hx) (by rw [← hF.1]; exact h3) hne
  rwa [std_aro o hx h3 hyx] at this
theorem Lst.tr (T : TabOk R t) (h : Lst R t F) : ∀ (k x : Nat), x < F.length → (wbn F x).length ≤ k → Tr t (N0 R t) F (wbn F x) (up F x) := by
  intro k
  induction k with
  | zero =>
    intro x hx hl
    have := List.length_pos_iff.mpr (List.ne_nil_of_mem (wbn_self hx))
    omega
  | succ k ih =>
    intro x hx hl
    have : ∀ P, ∃ r, P ∈ pi t (les (wbn F x) x) → r ∈ ovr R t x P ∧ Tr t (N0 R t) F P (some (x, r)) := fun P => by
      by_cases hP : P ∈ pi t (les (wbn F x) x)
      · obtain ⟨c, r, h1, h2, h3, h4⟩ := h.kids T hx hP
        refine ⟨r, fun _ => ⟨h4, ?_⟩⟩
        have := pi_les (asc_nodup wbn_ok.1) (wbn_self hx) hP
        rw [h3, ← h1]
        exact ih c h2 (by rw [← h3]; omega)
      · exact ⟨0, fun h => absurd h hP⟩
    obtain ⟨g, hg⟩ := Classical.skolem.mp this
    exact .mk x g ⟨wbn_self hx, fun P hP => (hg P hP).1⟩ rfl fun P hP => (hg P hP).2
theorem Lst.parts (T : TabOk R t) (h : Lst R t F) {P : List Nat} (hP : P ∈ pi t (List.range R.length)) : ∃ c, up F c = none ∧ c < F.length ∧ P = wbn F c := by
  obtain ⟨⟨hF, o, hl⟩, hc⟩ := h
  obtain ⟨c, ⟨hcl, hcu⟩, e⟩ := comp_top T ⟨hF, o, hl⟩ hc (M := List.range R.length) (C := fun c => c < F.length ∧ up F c = none) (fun a ha => by simpa [hF.1] using ha) (fun a ha => by
      obtain ⟨c, h3, h4, h5⟩ := An_root o (a := a) (by simpa [hF.1] using ha)
      exact ⟨c, ⟨h3, h4⟩, h5⟩) (fun c ⟨h1, h2⟩ => ⟨h1, fun v hv => by
      have := (mem_wbn.mp hv).1
      simpa [← hF.1] using this⟩) (fun c ⟨h1, h2⟩ v hv q hq => by
      rw [An_none h2] at hq; cases hq) okL_range.1 hP
  exact ⟨c, hcu, hcl, e⟩
theorem Lst.trA (T : TabOk R t) (h : Lst R t F) : TrA R t (N0 R t) F := ⟨h.1.1.1, fun P hP => by
  obtain ⟨c, h1, h2, h3⟩ := h.parts T hP
  rw [h3, ← h1]
  exact h.tr T _ c h2 (Nat.le_refl _)⟩
def Win (F G : List Pl) : Prop := ∀ x, x < F.length → ∀ h ∈ An F x, h ∈ An G x
theorem Win.refl : Win F F := fun _ _ _ h => h
theorem Win.trans (h : Win F G) (g : Win G H) (hl : F.length = G.length) : Win F H := fun x hx k hk => g x (by omega) k (h x hx k hk)
def NG (R : List Nat) (t : Nat → Nat → List Sd) (G : List Pl) : Ch := fun L x g => x ∈ L ∧ ∀ P ∈ pi t (les L x), g P ∈ ovr R t x P ∧ ∀ b ∈ P, (x, g P) ∈ An G b
theorem NG.n0 {g : List Nat → Nat} (h : NG R t G L x g) : N0 R t L x g := ⟨h.1, fun P hP => (h.2 P hP).1⟩
end
end Lib
namespace Lib
open PySem PySem.Spec PyProof.Rows L2 DN
variable {Xp : EP}
section
variable {Q : PV → Store → Prop} {st : Store} {R : List Nat} {S : List Sy} {x y n s : Nat} {p f b : PV} {L : List Nat} {F : List Pl} {i : Int} {c : Str} {w : PV} {es : List (List Key × PV)} {t : Nat → Nat → List Sd}
def abv (F : List Pl) (x : Nat) : List Nat := (An F x).map (·.1)
def rst (F : List Pl) : Pl → List (Nat × Nat)
  | none => []
  | some h => h :: An F h.1
theorem An_rst (o : Fo F) (hx : x < F.length) : An F x = rst F (up F x) := by
  cases e : up F x with
  | none => rw [An_none e]; rfl
  | some h => rw [An_some o hx e]; rfl
theorem around_sp (hw : Wf F) (hn : noR F) (hx : x < F.length) (hz : F.length ≤ 1000) (q : Q (tv (abv F x)) st) : (wpX Xp) (around [fv F, .int x] st) Q := by
  have o : Fo F := ⟨hw, hn⟩
  refine wp_fn ?_
  simp [fv, atI_fv hx]
  refine wps_whileO (fun k σ st' => ∃ (D : List (Nat × Nat)) (p : Pl), σ = [some (fv F), some (.int x), some (.ref st.length), some (Lib.pv p)] ∧ st' = st ++ [.lst ((D.map (·.1)).map nv)] ∧ An F x = D ++ rst F p ∧ (rst F p).length = k ∧ (∀ h, p = some h → h.1 < F.length)) ?_ (rst F (up F x)).length ⟨[], _, rfl, rfl, An_rst o hx, rfl, fun h hh => hw h (up_mem hh)⟩
  rintro I hI k σ st' ⟨D, p, rfl, rfl, e, hk, hp⟩
  have hl : (An F x).length ≤ F.length := clb_len _ _
  cases p with
  | none =>
    simp [Lib.pv]
    rw [wp_tupR (l := (D.map (·.1)).map nv) (by simp)]
    refine Gc.pure (by rw [cl_tup]; exact cls_nvs (L := D.map fun x => x.1)) rfl ?_
    have : abv F x = D.map (·.1) := by rw [abv, e]; simp [rst]
    rw [this] at q
    exact q
  | some h =>
    have hh := hp h rfl
    rw [e] at hl
    simp only [rst, List.length_append, List.length_cons] at hl hk
    simp [Lib.pv, pp]
    refine ⟨isL_ref (l := (D.map (·.1)).map nv) (by simp), ?_⟩
    refine wp_append (l := (D.map (·.1)).map nv) (by simp) (by simp only [List.length_map, SZ_lit]; omega) ?_
    simp [fv, atI_fv hh, wipeA]
    refine ⟨(rst F (up F h.1)).length, ?_, hI _ _ _ ⟨D ++ [h], _, rfl, by simp [nv], ?_, rfl, fun g hg => hw g (up_mem hg)⟩⟩
    · rw [← An_rst o hh]; omega
    · rw [e, ← An_rst o hh]; simp [rst]
theorem mem_abv {y : Nat} : y ∈ abv F x ↔ ∃ r, (y, r) ∈ An F x := by
  unfold abv
  rw [List.mem_map]
  exact ⟨fun ⟨h, h1, h2⟩ => ⟨h.2, by rw [← h2]; exact h1⟩, fun ⟨r, h⟩ => ⟨_, h, rfl⟩⟩
end
end Lib
namespace Lib
open PySem PySem.Spec PyProof.Rows L2 DN
section
variable {F G H : List Pl} {R : List Nat} {x y z n i j T : Nat} {t : Nat → Nat → List Sd} {L : List Nat} {N : Ch} {p pl : Pl}
theorem up_out (h : ¬ x < F.length) : up F x = none := by
  unfold up; rw [List.getElem?_eq_none (by omega)]; rfl
theorem An_holder (o : Fo F) (hx : x < F.length) {h : Nat × Nat} (e : up F x = some h) : (An F h.1).length < (An F x).length := by
  rw [An_some o hx e]; simp
theorem Fo_set (o : Fo F) (hx : x < F.length) (hp : ∀ q, p = some q → q.1 < F.length ∧ q.1 ∉ wbn F x) : Fo (F.set x p) := by
  have hw : Wf (F.set x p) := fun q hq => by
    rw [List.length_set]
    rcases List.mem_or_eq_of_mem_set hq with h | h
    · exact o.wf q h
    · exact (hp q h.symm).1
  refine ⟨hw, noR_rank hw (fun y => (if y ∈ wbn F x then F.length + 1 else 0) + (An F y).length) fun y q e => ?_⟩
  rw [up_set hx] at e
  have hl : ∀ y, (An F y).length ≤ F.length := fun y => clb_len _ _
  by_cases hyx : y = x
  · rw [if_pos hyx] at e
    subst hyx
    obtain ⟨h1, h2⟩ := hp q e
    simp only [if_neg h2, if_pos (wbn_self hx)]
    have := hl q.1
    omega
  · rw [if_neg hyx] at e
    have hy : y < F.length := Classical.byContradiction fun c => by rw [up_out c] at e; cases e
    have hd := An_holder o hy e
    have hq := up_lt o e
    have iff : y ∈ wbn F x ↔ q.1 ∈ wbn F x := by
      rw [mem_wbn, mem_wbn, An_some o hy e]
      constructor
      · rintro ⟨_, h | ⟨r, h⟩⟩
        · exact absurd h hyx
        · rcases List.mem_cons.mp h with h | h
          · exact ⟨hq, .inl (by rw [← h])⟩
          · exact ⟨hq, .inr ⟨r, h⟩⟩
      · rintro ⟨_, h | ⟨r, h⟩⟩
        · exact ⟨hy, .inr ⟨q.2, by rw [← h]; simp⟩⟩
        · exact ⟨hy, .inr ⟨r, List.mem_cons_of_mem _ h⟩⟩
    by_cases c : y ∈ wbn F x
    · simp only [if_pos c, if_pos (iff.mp c)]; omega
    · simp only [if_neg c, if_neg (fun h => c (iff.mpr h))]; omega
theorem Tr.congr {F' : List Pl} (h : Tr t (N0 R t) F L pl) : (∀ y ∈ L, up F' y = up F y) → Tr t (N0 R t) F' L pl := by
  induction h with
  | @mk L pl x g h1 h2 h3 ih =>
    intro hag
    exact .mk x g h1 (by rw [hag x h1.1]; exact h2) fun P hP => ih P hP fun y hy => hag y (les_mem.mp (pi_sub hP y hy)).1
theorem Lst.top (T : TabOk R t) (h : Lst R t F) (hx : x < F.length) : ∃ g, N0 R t (wbn F x) x g ∧ ∀ P ∈ pi t (les (wbn F x) x), Tr t (N0 R t) F P (some (x, g P)) := by
  have : ∀ P, ∃ r, P ∈ pi t (les (wbn F x) x) → r ∈ ovr R t x P ∧ Tr t (N0 R t) F P (some (x, r)) := fun P => by
    by_cases hP : P ∈ pi t (les (wbn F x) x)
    · obtain ⟨c, r, h1, h2, h3, h4⟩ := h.kids T hx hP
      refine ⟨r, fun _ => ⟨h4, ?_⟩⟩
      rw [h3, ← h1]
      exact h.tr T _ c h2 (Nat.le_refl _)
    · exact ⟨0, fun h => absurd h hP⟩
  obtain ⟨g, hg⟩ := Classical.skolem.mp this
  exact ⟨g, ⟨wbn_self hx, fun P hP => (hg P hP).1⟩, fun P hP => (hg P hP).2⟩
noncomputable def pwt (t : Nat → Nat → List Sd) (F : List Pl) (T x : Nat) : List Nat := cmp t (les (wbn F T) x) T
noncomputable def mvd (t : Nat → Nat → List Sd) (F : List Pl) (T x : Nat) : List Nat := (pwt t F T x).filter fun y => decide ((up F y).map (·.1) = some x)
structure Turned (t : Nat → Nat → List Sd) (F : List Pl) (T x i j : Nat) (G : List Pl) : Prop where
  len : G.length = F.length
  atx : up G x = up F T
  atT : up G T = some (x, j)
  mv : ∀ y ∈ mvd t F T x, up G y = some (T, i)
  els : ∀ y, y ≠ x → y ≠ T → y ∉ mvd t F T x → up G y = up F y
end
end Lib
namespace Lib
open PySem PySem.Spec PyProof.Rows L2 DN
variable {Xp : EP}
section
variable {Q : PV → Store → Prop} {QI : Src → Store → Prop} {st : Store} {R : List Nat} {S C : List Sy} {x y n s : Nat} {p f : PV} {t : Nat → Nat → List Sd} {L : List Nat} {F : List Pl} {es : List (List Key × PV)} {σ : AE} {z : Sy}
end
end Lib
namespace Lib
open PySem PySem.Spec PyProof.Rows L2 DN
variable {Xp : EP}
section
variable {Q : PV → Store → Prop} {st : Store} {R : List Nat} {S C : List Sy} {x y n s : Nat} {p f : PV} {z : Sy}
def f1 : Sd → Bool := fun s => match s with | .ap => true | _ => false
def f2 : Sd → Bool := fun s => match s with | .aro _ => true | _ => false
def f3 : Sd → Bool := fun s => match s with | .inn _ => true | _ => false
end
end Lib
namespace DN
open PySem PySem.Spec PyProof.Rows L2
structure Pl0 (n m : Nat) (d : PyData) : Prop where
  lay : PyData.canLay0 d = true
  dep : PyData.depth d ≤ n
  sho : PyData.showable d = true
  int : PyData.intsShort 60 d = true
  wt : PyData.weight d + 1 ≤ 200 * m
structure PlA (n m : Nat) (ds : List PyData) : Prop where
  lay : PyData.canLayAll0 ds = true
  dep : PyData.depthAll ds ≤ n
  sho : PyData.showableAll ds = true
  int : PyData.intsShortAll 60 ds = true
  wt : PyData.weightAll ds ≤ 200 * m
theorem int_wt {i : Int} (h : i.natAbs < 10 ^ 40) : PyData.weight (.int i) ≤ 140 ∧ i.natAbs.log2 < 1920 := by
  simp only [PyData.weight]
  by_cases h0 : i.natAbs = 0
  · have : i = 0 := by omega
    subst this
    exact ⟨by decide, by decide⟩
  · have : i.natAbs.log2 < 133 := (Nat.log2_lt h0).mpr (Nat.lt_trans h (by decide))
    refine ⟨?_, by omega⟩
    split <;> omega
theorem int_short {i : Int} (h : i.natAbs < 10 ^ 40) : PyData.intsShort 60 (.int i) = true := by
  have e := int_text_length_le10 (k := 40) (by decide) h
  simp only [PyData.intsShort, decide_eq_true_eq]
  show (Str.ofString (toString i)).length ≤ 60
  rw [PySem.ofString_length]; omega
def rp (p : PV) : Str := match toD0 p with
  | some d => d.shown
  | none => ""
theorem toD_of0 {p : PV} {d : PyData} {st : Store} (h : toD0 p = some d) : toD p st = some d := by
  cases p <;> first | exact h | (simp [toD0] at h)
end DN
namespace Lib
open PySem PySem.Spec PyProof.Rows L2 DN
variable {Xp : EP}
section
variable {Q : PV → Store → Prop} {st : Store} {R : List Nat} {S C : List Sy} {x y n s : Nat} {p f : PV} {z : Sy} {t : Nat → Nat → List Sd} {L : List Nat} {F : List Pl}
theorem sum_le {α : Type} {g : α → Nat} {b : Nat} : ∀ {l : List α}, (∀ a ∈ l, g a ≤ b) → (l.map g).sum ≤ b * l.length
  | [], _ => by simp
  | a :: l, h => by
    have h1 := h a (by simp)
    have h2 := sum_le (l := l) fun c hc => h c (by simp [hc])
    simp only [List.map_cons, List.sum_cons, List.length_cons, Nat.mul_succ]
    omega
end
end Lib
set_option maxHeartbeats 4000000
namespace Lib
open PySem PySem.Spec PyProof.Rows L2 DN
variable {Xp : EP}
section
variable {Q : PV → Store → Prop} {st : Store} {R : List Nat} {S C : List Sy} {x y n s : Nat} {p f : PV} {z : Sy} {L : List Nat} {es : List (List Key × PV)} {t : Nat → Nat → List Sd} {K : List Sd}
theorem set_cut {l : List PV} {i : Nat} {p : PV} (h : i < l.length) : l.take i ++ ([p] ++ l.drop (i + 1)) = l.set i p := by
  rw [List.set_eq_take_append_cons_drop, if_pos h]; rfl
end
end Lib
namespace Lib
open PySem PySem.Spec PyProof.Rows L2 DN
variable {Xp : EP}
section
variable {Q : PV → Store → Prop} {QL : List PV → Store → Prop} {st : Store} {σ : AE} {R : List Nat} {S C : List Sy} {x y n : Nat} {s : Sd} {p f : PV} {z : Sy} {L : List Nat} {es : List (List Key × PV)} {t : Nat → Nat → List Sd} {K : List Sd}
@[simp] theorem wp_dCompL2 {s : DI} {t : DT} {c : DB} {s1 : DI} {t1 : DT} {c1 : DB} {e : DE} {w w1 : List Nat} {m : List PV → M PV} : (wpX Xp) (dCompL2 s t c s1 t1 c1 e w w1 m σ st) Q = (wpX Xp) (s σ st) fun r st => (wpX Xp) (lcO t c (lcB s1 t1 c1 e w1) r.2 (wipeA σ w) r.1 st) fun vs st => (wpX Xp) (m vs st) Q := by
  simp only [dCompL2, wp_bind]
@[simp] theorem wp_lcB {s1 : DI} {t1 : DT} {c1 : DB} {e : DE} {w1 : List Nat} : (wpX Xp) (lcB s1 t1 c1 e w1 σ st) QL = wpX EF (s1 σ st) fun r st => (wpX Xp) (lcI t1 c1 e r.2 (wipeA σ w1) r.1 st) QL := by
  simp only [lcB, wp_bind, wp_noX]
end
end Lib
namespace Lib
open PySem PySem.Spec PyProof.Rows L2 DN
variable {Xp : EP}
section
variable {Q : PV → Store → Prop} {st : Store} {R : List Nat} {S : List Sy} {x y n s T i j : Nat} {p f b : PV} {L : List Nat} {F : List Pl} {es : List (List Key × PV)} {t : Nat → Nat → List Sd}
theorem set_cut2 {l : List PV} {i : Nat} {p : PV} (h : i < l.length) : l.take i ++ (p :: l.drop (i + 1)) = l.set i p := by
  have := set_cut (p := p) h
  simpa using this
theorem put_sp {q : Pl} (hx : x < F.length) (hz : F.length ≤ 1000) (h : Q (fv (F.set x q)) st) : (wpX Xp) (_law_hung [fv F, .int x, pv q] st) Q := by
  refine wp_fn ?_
  simp [fv]
  rw [cut_take, show ((x : Int) + 1) = ((x + 1 : Nat) : Int) by omega, cut_drop]
  refine ⟨by simp; omega, by simp; omega, ?_⟩
  have e := set_cut2 (l := F.map pv) (i := x) (p := pv q) (by simpa using hx)
  rw [e, ← List.map_set]
  exact Gc.same (by rw [cl_tup]; exact cls_pvF (F := F.set x q)) h
structure Hd (R : List Nat) (F : List Pl) (x T i : Nat) : Prop where
  hF : okF R F
  o : Fo F
  hx : x < F.length
  up : up F x = some (T, i)
theorem Hd.hT (h : Hd R F x T i) : T < F.length := up_lt h.o h.up
theorem numbered_map {α : Type} {g : α → PV} {l : List α} {d : α} : ∀ {k : Nat}, DN.numbered k (l.map g) = (List.range l.length).map fun i => PV.tup [.int (k + i : Nat), g (l.getD i d)] := by
  induction l with
  | nil => intro k; rfl
  | cons a l ih =>
    intro k
    simp only [List.map_cons, DN.numbered, List.length_cons, List.range_succ_eq_map, List.map_cons, List.map_map]
    rw [ih]
    simp
    intro i hi
    omega
def wd (b : Bool) : Str := if b then ("turn" : Str) else ("shift" : Str)
end
end Lib
namespace Lib
open PySem PySem.Spec PyProof.Rows L2 DN
variable {Xp : EP}
section
variable {Q : PV → Store → Prop} {st : Store} {F : List Pl} {R : List Nat} {x y a : Nat} {p v : PV} {J s : Str}
theorem wps_seqK {Xp : EP} {a b : DS} {σ : AE} {st : Store} {N : AE → Store → Prop} {Rr : PV → Store → Prop} {B C : AE → Store → Prop} (h : ∀ K : AE → Store → Prop, (∀ σ st, wpsX Xp (b σ st) N Rr B C → K σ st) → wpsX Xp (a σ st) K Rr B C) : wpsX Xp (sSeq a b σ st) N Rr B C := by
  rw [wps_seq]
  exact h _ fun _ _ h => h
structure Yd where
  F : List Pl
  h : Option Nat
  J : Str
def yv (Y : Yd) : PV := .tup [fv Y.F, ov Y.h, .str Y.J]
structure okY (R : List Nat) (Y : Yd) : Prop where
  hF : okF R Y.F
  o : Fo Y.F
  hk : ∀ a, Y.h = some a → a < R.length ∧ up Y.F a = none
  sk : PyData.strOk Y.J = true
inductive Rw where
  | lift (x : Nat) | low (p : Pl) | wr (s : Str) | tr
def rwv : Rw → PV
  | .lift x => .tup [.str ("lift" : Str), .int x]
  | .low p => .tup [.str ("lower" : Str), pv p]
  | .wr s => .tup [.str ("write" : Str), .str s]
  | .tr => .tup [.str ("trim" : Str)]
def okRw (R : List Nat) : Rw → Prop
  | .lift x => x < R.length
  | .low p => ∀ q, p = some q → q.1 < R.length ∧ q.2 < rm R q.1
  | .wr s => s ≠ Str.empty
  | .tr => True
def plW (R : List Nat) : PV → Bool
  | .non => true
  | .tup [.int h, .int r] => decide (0 ≤ h) && (decide (h < R.length) && (decide (0 ≤ r) && decide (r < rm R h.toNat)))
  | _ => false
theorem place_spec1 (hp : dab 20 p = true) (q : Q (.bl (plW R p)) st) : (wpX Xp) (is_place [rv R, .int (-1), p] st) Q := by
  refine wp_fn ?_
  cases p with
  | non => simp; exact Gc.same (by simp) q
  | tup l =>
    match l with
    | [] => simp [wp_isTup hp, isTp]; exact Gc.same (by simp) q
    | [a] => simp [wp_isTup hp, isTp]; exact Gc.same (by simp) (by cases a <;> exact q)
    | a :: b :: c :: l => simp [wp_isTup hp, isTp]; rw [cnd_neg (by simp; omega)]; exact Gc.same (by simp) (by cases a <;> cases b <;> exact q)
    | [a, b] =>
      have ha : dab 20 a = true := dab_mono (n := 19) (by omega) (by simp [dab] at hp; exact hp.1)
      have hb : dab 20 b = true := dab_mono (n := 19) (by omega) (by simp [dab] at hp; exact hp.2)
      simp [wp_isTup hp, isTp]
      refine whole_spec ha ?_
      simp
      cases a with
      | int h =>
        simp [isWh]
        refine whole_spec hb ?_
        simp
        cases b with
        | int r =>
          simp [isWh, rv]
          by_cases h0 : 0 ≤ h
          · by_cases h1 : h < R.length
            · have h2 : ¬ h = -1 := by omega
              simp [h0, h1, h2, atI_rvI h0 h1]
              by_cases h3 : 0 ≤ r
              · simp [h3]
                exact Gc.same (by simp) (by simpa [plW, h0, h1, h3] using q)
              · simp [h3]
                exact Gc.same (by simp) (by simpa [plW, h0, h1, h3] using q)
            · simp [h0, h1]
              exact Gc.same (by simp) (by simpa [plW, h0, h1] using q)
          · simp [h0]
            exact Gc.same (by simp) (by simpa [plW, h0] using q)
        | _ => simp [isWh]; exact Gc.same (by simp) q
      | _ => simp [isWh]; exact Gc.same (by simp) (by cases b <;> exact q)
  | _ => first | (simp [dab] at hp; done) | (simp [wp_isTup hp, isTp]; exact Gc.same (by simp) q)
def rwB (R : List Nat) : PV → Bool
  | .tup [.str w] => decide (w = ("trim" : Str))
  | .tup [.str w, v] => if w = ("lift" : Str) then nmB R.length v else if w = ("lower" : Str) then plW R v else decide (w = ("write" : Str)) && (match v with
    | .str s => !decide (s = ("" : Str))
    | _ => false)
  | _ => false
def rwK : PV → Bool
  | .tup [.str _, _] => true
  | .tup [_, _] => false
  | _ => true
theorem code_row_spec (hp : dpv 64 p = true) (hd : dab 20 p = true) (hk : rwK p = true) (q : Q (.bl (rwB R p)) st) : (wpX Xp) (is_code_row [rv R, p] st) Q := by
  have ht : dpv 64 (.tup [.str ("trim" : Str)]) = true := by decide +kernel
  refine wp_fn ?_
  cases p with
  | tup l =>
    match l with
    | [] =>
      simp [wp_isTup hd, isTp]
      rw [wp_eqD hp ht]
      simp
      exact Gc.same (by simp) q
    | [w] =>
      simp [wp_isTup hd, isTp]
      rw [wp_eqD hp ht]
      simp
      by_cases c : w = .str ("trim" : Str)
      · subst c
        simp
        rw [wp_eqD ht ht]
        simp
        exact Gc.same (by simp) q
      · simp [c]
        have : rwB R (.tup [w]) = false := by
          cases w with
          | str w => simpa [rwB] using c
          | _ => rfl
        rw [this] at q
        exact Gc.same (by simp) q
    | w :: v :: u :: l =>
      simp [wp_isTup hd, isTp]
      rw [wp_eqD hp ht]
      simp
      have hl : ¬ ((l.length : Int) + 1 + 1 + 1 = 2) := by omega
      simp [hl]
      exact Gc.same (by simp) (by cases w <;> exact q)
    | [w, v] =>
      cases w with
      | str w =>
        have hv : dab 20 v = true := dab_mono (n := 19) (by omega) (by simp [dab] at hd; exact hd.2)
        simp [wp_isTup hd, isTp]
        rw [wp_eqD hp ht]
        simp
        by_cases c1 : w = ("lift" : Str)
        · simp [c1]
          refine thing_spec hv ?_
          exact Gc.same (by simp) (by simpa [rwB, c1] using q)
        by_cases c2 : w = ("lower" : Str)
        · have : ¬ (("lower" : Str) = ("lift" : Str)) := by decide
          simp [c2, this]
          refine place_spec1 hv ?_
          exact Gc.same (by simp) (by simpa [rwB, c2, this] using q)
        simp [c1, c2]
        by_cases c3 : w = ("write" : Str)
        · simp [c3, wp_isStr hv]
          have n1 : ¬ (("write" : Str) = ("lift" : Str)) := by decide
          have n2 : ¬ (("write" : Str) = ("lower" : Str)) := by decide
          cases v with
          | str s =>
            simp [isSt]
            exact Gc.same (by simp) (by simpa [rwB, c3, n1, n2] using q)
          | _ =>
            simp [isSt]
            exact Gc.same (by simp) (by simpa [rwB, c3, n1, n2] using q)
        · simp [c3]
          exact Gc.same (by simp) (by simpa [rwB, c1, c2, c3] using q)
      | _ => simp [rwK] at hk
  | _ =>
    first
      | (simp [dpv] at hp; done)
      | (simp [wp_isTup hd, isTp]
         rw [wp_eqD hp ht]
         simp
         exact Gc.same (by simp) q)
noncomputable def stY (Y : Yd) : Rw → Except (Str × Nat) Yd
  | .lift x => match Y.h with
    | some a => .error ("Hooked", a)
    | none => .ok ⟨Y.F.set x none, some x, Y.J⟩
  | .low p => match Y.h with
    | none => .error ("NoHook", 0)
    | some a => match p with
      | none => .ok ⟨Y.F.set a none, none, Y.J⟩
      | some q => if q.1 ∈ wbn Y.F a then .error ("Within", q.1) else .ok ⟨Y.F.set a (some q), none, Y.J⟩
  | .wr s => .ok ⟨Y.F, Y.h, Y.J ++ s⟩
  | .tr => .ok ⟨Y.F, Y.h, cutS Y.J none (some (Txt.rfind Y.J "\n" + 1))⟩
def outS (Xp : EP) (Q : PV → Store → Prop) (st : Store) : Except (Str × Nat) Yd → Prop
  | .ok Y => Q (yv Y) st
  | .error e => Xp e.1 (.int e.2) st
theorem cl_fvM : DN.cl (fv F) = true := by simpa [fv] using cls_pvF
theorem cl_yv {Y : Yd} : DN.cl (yv Y) = true := by
  have h1 : DN.cl (ov Y.h) = true := cl_ov
  simp [yv, h1]
  simpa [fv] using cls_pvF
theorem wbn_ab (hy : y < F.length) : y ∈ wbn F a ↔ (y = a ∨ a ∈ abv F y) := by
  rw [mem_wbn, mem_abv]
  simp [hy]
theorem stepped_sp {Y : Yd} {r : Rw} (hY : okY R Y) (hr : okRw R r) (hz : R.length ≤ 24) (hJ : Y.J.length ≤ 1000000) (hs : ∀ s, r = .wr s → s.length ≤ 1000000) (q : outS Xp Q st (stY Y r)) : (wpX Xp) (stepped [yv Y, rwv r] st) Q := by
  obtain ⟨F, h, J⟩ := Y
  have hFl : F.length = R.length := hY.hF.1
  have o : Fo F := hY.o
  have fin : ∀ Y' : Yd, Q (yv Y') st → Gc st (yv Y') st Q := fun Y' h => Gc.same cl_yv h
  refine wp_fn ?_
  cases r with
  | lift x =>
    have hx : x < F.length := by rw [hFl]; exact hr
    simp [yv, rwv, -wps_if]
    cases h with
    | some a =>
      simp [ov, DN.isNon]
      exact Gc.same (by simp) q
    | none =>
      simp [ov]
      rw [show PV.non = pv none from rfl]
      refine put_sp hx (by omega) ?_
      exact fin ⟨F.set x none, some x, J⟩ q
  | low p =>
    have n1 : ¬ (("lower" : Str) = ("lift" : Str)) := by decide
    simp [yv, rwv, n1]
    refine wp_fn ?_
    cases h with
    | none =>
      simp [ov]
      exact Gc.same (by simp) (Gc.same (by simp) q)
    | some a =>
      have hal := (hY.hk a rfl).1
      have nn : DN.isNon (ov (some a)) = false := rfl
      simp [nn, -wps_if]
      cases p with
      | none =>
        simp [pv, wps_if]
        rw [show PV.non = pv none from rfl, show ov (some a) = .int a from rfl]
        refine put_sp (by omega) (by omega) ?_
        exact Gc.same cl_fvM (fin ⟨F.set a none, none, J⟩ q)
      | some p =>
        obtain ⟨y, j⟩ := p
        have hyj := hr (y, j) rfl
        have n0 : DN.isNon (pv (some (y, j))) = false := rfl
        rw [wps_if]
        simp [n0]
        rw [show pv (some (y, j)) = .tup [.int y, .int j] from rfl, show ov (some a) = .int a from rfl]
        simp
        have hb := wbn_ab (F := F) (a := a) (y := y) (by rw [hFl]; exact hyj.1)
        by_cases c : y = a
        · subst c
          simp
          have : y ∈ wbn F y := hb.mpr (.inl rfl)
          simp only [stY, this, if_true, outS] at q
          exact Gc.same (by simp) (Gc.same (by simp) q)
        · have c' : ¬ ((y : Int) = a) := by omega
          simp [c']
          refine around_sp o.wf o.nr (by rw [hFl]; exact hyj.1) (by omega) ?_
          simp [tv]
          rw [wp_inNT]
          by_cases c2 : a ∈ abv F y
          · simp [c2]
            have : y ∈ wbn F a := hb.mpr (.inr c2)
            simp only [stY, this, if_true, outS] at q
            exact Gc.same (by simp) (Gc.same (by simp) q)
          · simp [c2]
            rw [show PV.tup [.int y, .int j] = pv (some (y, j)) from rfl]
            refine put_sp (by omega) (by omega) ?_
            have : ¬ y ∈ wbn F a := fun h => (hb.mp h).elim c c2
            simp only [stY, this, if_false, outS] at q
            exact Gc.same cl_fvM (fin ⟨F.set a (some (y, j)), none, J⟩ q)
  | wr s =>
    have hs := hs s rfl
    simp [yv, rwv, -wps_if]
    have n1 : ¬ (("write" : Str) = ("lift" : Str)) := by decide
    have n2 : ¬ (("write" : Str) = ("lower" : Str)) := by decide
    have hJ' : J.length ≤ 1000000 := hJ
    simp [n1, n2]
    refine ⟨by omega, ?_⟩
    exact fin ⟨F, h, J ++ s⟩ q
  | tr =>
    have hJ' : J.length ≤ 1000000 := hJ
    simp [yv, rwv, -wps_if]
    have n1 : ¬ (("trim" : Str) = ("lift" : Str)) := by decide
    have n2 : ¬ (("trim" : Str) = ("lower" : Str)) := by decide
    have n3 : ¬ (("trim" : Str) = ("write" : Str)) := by decide
    simp [n1, n2, n3]
    refine ⟨by omega, ?_⟩
    exact fin ⟨F, h, _⟩ q
end
end Lib
namespace Lib
open PySem PySem.Spec PyProof.Rows L2 DN
variable {Xp : EP}
section
variable {Q : PV → Store → Prop} {st : Store} {F : List Pl} {R : List Nat} {x y a : Nat} {p v f w : PV} {J s c : Str}
theorem ov_up {o : Pl} : DN.isNon (pv o) = o.isNone := by cases o <;> rfl
def hkB (R : List Nat) (F : List Pl) : PV → Bool
  | .non => true
  | .int i => decide (0 ≤ i) && (decide (i < R.length) && (up F i.toNat).isNone)
  | _ => false
theorem is_hook_sp (hF : F.length = R.length) (hp : dab 20 p = true) (q : Q (.bl (hkB R F p)) st) : (wpX Xp) (is_hook [rv R, fv F, p] st) Q := by
  refine wp_fn ?_
  cases p with
  | non => simp; exact Gc.same (by simp) q
  | int i =>
    simp
    refine thing_spec hp ?_
    simp [nmB]
    by_cases h : 0 ≤ i ∧ i < R.length
    · obtain ⟨h0, h1⟩ := h
      have ix : ∀ {X : EP} {Q : PV → Store → Prop} {st : Store}, wpX X (pIx (fv F) (.int i) st) Q = Q (pv (up F i.toNat)) st := fun {X Q st} => by
        have := ixFv (X := X) (Q := Q) (st := st) (F := F) (x := i.toNat) (by omega)
        rwa [show ((i.toNat : Nat) : Int) = i by omega] at this
      simp [h0, h1, ix, ov_up]
      exact Gc.same (by simp) (by simpa [hkB, h0, h1] using q)
    · have : (decide (0 ≤ i) && decide (i < (R.length : Int))) = false := by simp; omega
      simp only [this]
      have e : hkB R F (.int i) = false := by
        simp only [hkB]
        by_cases h0 : 0 ≤ i
        · have : ¬ i < R.length := fun h1 => h ⟨h0, h1⟩
          simp [this]
        · simp [h0]
      rw [e] at q
      simp
      exact Gc.same (by simp) q
  | _ =>
    first
      | (simp [dab] at hp; done)
      | (simp
         refine thing_spec hp ?_
         simp [nmB]
         exact Gc.same (by simp) q)
theorem hkB_ov {Y : Yd} (hY : okY R Y) : hkB R Y.F (ov Y.h) = true := by
  cases h : Y.h with
  | none => rfl
  | some a =>
    obtain ⟨h1, h2⟩ := hY.hk a h
    simp [ov, hkB, h1, h2]
theorem dab_ov {o : Option Nat} {m : Nat} : dab (m + 1) (ov o) = true := by cases o <;> simp [ov, dab]
theorem dab_str {m : Nat} (h : PyData.strOk s = true) : dab (m + 1) (.str s) = true := by simp [dab, h]
theorem dab_yv {Y : Yd} (h : PyData.strOk Y.J = true) : dab 20 (yv Y) = true := by
  have h1 : dab 19 (fv Y.F) = true := dab_fv (m := 17)
  have h2 : dab 19 (ov Y.h) = true := dab_ov (m := 18)
  simp [yv, dab, h1, h2, h]
theorem made_yard_ok {Y : Yd} (hR : okR R) (hY : okY R Y) (q : Q (yv Y) st) : (wpX Xp) (made_yard [rv R, yv Y] st) Q := by
  have hJ : dab 20 (.str Y.J) = true := dab_str (m := 19) hY.sk
  refine wp_fn ?_
  simp
  refine made_rooms_spec hR ?_
  simp [wp_isTup (dab_yv hY.sk)]
  simp [yv, isTp]
  refine made_forest_ok hR hY.hF hY.o.nr ?_
  skip
  refine is_hook_sp hY.hF.1 (dab_ov (m := 19)) ?_
  rw [hkB_ov hY]
  simp [wp_isStr hJ, isSt]
  exact Gc.same cl_yv q
theorem cl_rwv {r : Rw} : DN.cl (rwv r) = true := by
  cases r with
  | low p => cases p <;> simp [rwv, pv, pp]
  | _ => simp [rwv]
theorem dab_rwv {r : Rw} (h : ∀ s, r = .wr s → PyData.strOk s = true) : dab 20 (rwv r) = true := by
  cases r with
  | lift x => simp only [rwv, dab, List.all_cons, List.all_nil, Bool.and_true]; decide +kernel
  | low p =>
    have h2 : dab 19 (pv p) = true := by cases p <;> simp [pv, pp, dab]
    have h1 : dab 19 (.str ("lower" : Str)) = true := by decide +kernel
    simp only [rwv, dab, List.all_cons, List.all_nil, Bool.and_true, Bool.and_eq_true]
    exact ⟨h1, h2⟩
  | wr s =>
    have h1 : dab 19 (.str ("write" : Str)) = true := by decide +kernel
    simp only [rwv, dab, List.all_cons, List.all_nil, Bool.and_true, Bool.and_eq_true]
    exact ⟨h1, h s rfl⟩
  | tr => decide +kernel
theorem rwK_rwv {r : Rw} : rwK (rwv r) = true := by cases r <;> rfl
theorem dpv_rwv {r : Rw} (h : ∀ s, r = .wr s → PyData.strOk s = true) : dpv 64 (rwv r) = true := by
  cases r with
  | lift x => simp only [rwv, dpv, List.all_cons, List.all_nil, Bool.and_true]; decide +kernel
  | low p =>
    have h2 : dpv 63 (pv p) = true := by cases p <;> simp [pv, pp, dpv]
    have h1 : dpv 63 (.str ("lower" : Str)) = true := by decide +kernel
    simp only [rwv, dpv, List.all_cons, List.all_nil, Bool.and_true, Bool.and_eq_true]
    exact ⟨h1, h2⟩
  | wr s =>
    have h1 : dpv 63 (.str ("write" : Str)) = true := by decide +kernel
    simp only [rwv, dpv, List.all_cons, List.all_nil, Bool.and_true, Bool.and_eq_true]
    exact ⟨h1, h s rfl⟩
  | tr => decide +kernel
theorem rwB_rwv {r : Rw} (h : okRw R r) : rwB R (rwv r) = true := by
  cases r with
  | lift x => have h : x < R.length := h; simp [rwv, rwB, nmB, h]
  | low p =>
    have n1 : ¬ (("lower" : Str) = ("lift" : Str)) := by decide
    cases p with
    | none => simp [rwv, rwB, n1, pv, plW]
    | some q =>
      obtain ⟨h1, h2⟩ := h q rfl
      simp [rwv, rwB, n1, pv, pp, plW, h1, h2]
  | wr s =>
    have n1 : ¬ (("write" : Str) = ("lift" : Str)) := by decide
    have n2 : ¬ (("write" : Str) = ("lower" : Str)) := by decide
    have h : s ≠ Str.empty := h
    have e : ("" : Str) = Str.empty := by decide
    simp [rwv, rwB, n1, n2, e, h]
  | tr => simp [rwv, rwB]
def txR (r : Rw) : Prop := ∀ s, r = .wr s → PyData.strOk s = true ∧ s.length ≤ 100000
end
end Lib
set_option maxHeartbeats 2000000
namespace DN
open PySem PySem.Spec PyProof.Rows L2
theorem ok_of (s : String) : PyData.strOk (Str.ofString s) = true := by
  unfold PyData.strOk
  rw [PySem.Str.ofString_eq_toList]
  simp only [List.all_toArray, List.all_map, List.all_eq_true]
  intro c _
  have := c.valid
  simp only [Function.comp, decide_eq_true_eq]
  have h : c.toNat.isValidChar := c.valid
  rcases h with h | ⟨_, h⟩
  · omega
  · exact h
theorem ok_app {x y : Str} (h : PyData.strOk x = true) (h' : PyData.strOk y = true) : PyData.strOk (x ++ y) = true := by
  show (x.cps ++ y.cps).all _ = true
  rw [Array.all_append]
  unfold PyData.strOk at h h'
  rw [h, h']; rfl
end DN
set_option maxHeartbeats 4000000
namespace Lib
open PySem PySem.Spec PyProof.Rows L2 DN
variable {Xp : EP}
section
variable {Q : PV → Store → Prop} {st : Store} {F : List Pl} {R : List Nat} {x y a : Nat} {p v f w : PV} {J s c : Str}
theorem cutS_len {lo hi : Option Int} : (cutS s lo hi).length ≤ s.length := by
  unfold cutS
  show (List.toArray _).size ≤ s.cps.size
  simp only [List.size_toArray, List.length_take, List.length_drop, Array.length_toList]
  omega
theorem ok_cut {lo hi : Option Int} (h : PyData.strOk s = true) : PyData.strOk (cutS s lo hi) = true := by
  unfold PyData.strOk at h ⊢
  unfold cutS
  simp only [List.all_toArray, List.all_eq_true, decide_eq_true_eq]
  rw [Array.all_eq_true_iff_forall_mem] at h
  intro c hc
  have := List.mem_of_mem_drop (List.mem_of_mem_take hc)
  simpa using h c (by simpa using this)
theorem okF_setN {p : Pl} (hF : okF R F) (hx : x < F.length) (hp : ∀ q, p = some q → q.1 < R.length ∧ q.1 ≠ x ∧ q.2 < rm R q.1) : okF R (F.set x p) := by
  refine ⟨by rw [List.length_set]; exact hF.1, fun y hy h hu => ?_⟩
  rw [up_set hx] at hu
  by_cases e : y = x
  · rw [if_pos e] at hu
    rw [e]
    exact hp h hu
  · rw [if_neg e] at hu
    rw [List.length_set] at hy
    exact hF.2 y hy h hu
theorem up_setN {p : Pl} (hx : x < F.length) : up (F.set x p) x = p := by rw [up_set hx, if_pos rfl]
theorem stY_ok {Y Y' : Yd} {r : Rw} (hY : okY R Y) (hr : okRw R r) (hs : txR r) (h : stY Y r = .ok Y') : okY R Y' := by
  obtain ⟨F, hk, J⟩ := Y
  have hFl : F.length = R.length := hY.hF.1
  cases r with
  | lift x =>
    have hx : x < F.length := by rw [hFl]; exact hr
    cases hk with
    | some a => simp [stY] at h
    | none =>
      simp only [stY, Except.ok.injEq] at h
      subst h
      exact ⟨okF_setN hY.hF hx (fun q e => by cases e), Fo_set hY.o hx (fun q e => by cases e), fun a e => by cases e; exact ⟨hr, up_setN hx⟩, hY.sk⟩
  | low p =>
    cases hk with
    | none => simp [stY] at h
    | some a =>
      have ha := hY.hk a rfl
      cases p with
      | none =>
        simp only [stY, Except.ok.injEq] at h
        subst h
        exact ⟨okF_setN hY.hF (by omega) (fun q e => by cases e), Fo_set hY.o (by omega) (fun q e => by cases e), (fun b e => by cases e), hY.sk⟩
      | some q =>
        simp only [stY] at h
        have hq := hr q rfl
        by_cases c : q.1 ∈ wbn F a
        · rw [if_pos c] at h; cases h
        · rw [if_neg c] at h
          simp only [Except.ok.injEq] at h
          subst h
          have hne : q.1 ≠ a := fun e => c (by rw [e]; exact wbn_self (by omega))
          exact ⟨okF_setN hY.hF (by omega) (fun q' e => by cases e; exact ⟨hq.1, hne, hq.2⟩), Fo_set hY.o (by omega) (fun q' e => by cases e; exact ⟨by omega, c⟩), (fun b e => by cases e), hY.sk⟩
  | wr s =>
    simp only [stY, Except.ok.injEq] at h
    subst h
    exact ⟨hY.hF, hY.o, hY.hk, ok_app hY.sk (hs s rfl).1⟩
  | tr =>
    simp only [stY, Except.ok.injEq] at h
    subst h
    exact ⟨hY.hF, hY.o, hY.hk, ok_cut hY.sk⟩
def wln : Rw → Nat
  | .wr s => s.length
  | _ => 0
theorem app_len {a b : Str} : (a ++ b).length = a.length + b.length := by
  show (a.cps ++ b.cps).size = _
  rw [Array.size_append]; rfl
theorem stY_len {Y Y' : Yd} {r : Rw} (h : stY Y r = .ok Y') : Y'.J.length ≤ Y.J.length + wln r := by
  obtain ⟨F, hk, J⟩ := Y
  cases r with
  | lift x => cases hk <;> simp [stY] at h; subst h; simp [wln]
  | low p =>
    cases hk with
    | none => simp [stY] at h
    | some a =>
      cases p with
      | none => simp [stY] at h; subst h; simp [wln]
      | some q =>
        simp only [stY] at h
        split at h
        · cases h
        · simp only [Except.ok.injEq] at h; subst h; simp [wln]
  | wr s =>
    simp only [stY, Except.ok.injEq] at h
    subst h
    simp [wln, app_len]
  | tr =>
    simp only [stY, Except.ok.injEq] at h
    subst h
    simpa [wln] using cutS_len
noncomputable def runY : Yd → List Rw → Except (Str × Nat) Yd
  | Y, [] => .ok Y
  | Y, r :: rs => match stY Y r with
    | .ok Y' => runY Y' rs
    | .error e => .error e
theorem runY_app : ∀ {A B : List Rw} {Y : Yd}, runY Y (A ++ B) = match runY Y A with
    | .ok Y' => runY Y' B
    | .error e => .error e
  | [], B, Y => rfl
  | r :: A, B, Y => by
    show (match stY Y r with | .ok Y' => runY Y' (A ++ B) | .error e => .error e) = _
    simp only [runY]
    cases stY Y r with
    | error e => rfl
    | ok Y' => exact runY_app
theorem all_stepped_sp : ∀ {rs : List Rw} {Y : Yd}, okY R Y → R.length ≤ 24 → (∀ r ∈ rs, okRw R r ∧ txR r) → Y.J.length + (rs.map wln).sum ≤ 1000000 → outS Xp Q st (runY Y rs) → (wpX Xp) (all_stepped [yv Y, .tup (rs.map rwv)] st) Q := by
  intro rs Y hY h24 hr hJ q
  refine wp_fn ?_
  simp
  refine wps_forM (g := rwv) (fun r σ st' => ∃ (A : List Rw) (Y' : Yd), A ++ r = rs ∧ runY Y A = .ok Y' ∧ okY R Y' ∧ Y'.J.length + (r.map wln).sum ≤ 1000000 ∧ σ = [some (yv Y'), some (.tup (rs.map rwv)), none] ∧ st' = st) _ ?_ ?_ ⟨[], Y, rfl, rfl, hY, hJ, rfl, rfl⟩
  · rintro I hI r r' σ st' ⟨A, Y', hA, hrun, hY', hJ', rfl, rfl⟩
    have hr' := hr r (by rw [← hA]; simp)
    simp only [List.map_cons, List.sum_cons] at hJ'
    simp
    refine stepped_sp hY' hr'.1 h24 (by omega) (fun s e => by have := (hr'.2 s e).2; omega) ?_
    cases h : stY Y' r with
    | ok Y2 =>
      have := stY_len h
      refine hI _ _ _ ⟨A ++ [r], Y2, by simp [hA], ?_, stY_ok hY' hr'.1 hr'.2 h, by omega, by simp [wipeA], rfl⟩
      rw [runY_app, hrun]
      simp [runY, h]
    | error e =>
      have : runY Y rs = .error e := by
        rw [← hA, runY_app, hrun]
        simp [runY, h]
      rw [this] at q
      exact Gc.same (by simp) q
  · rintro σ st' ⟨A, Y', hA, hrun, hY', hJ', rfl, rfl⟩
    simp only [List.append_nil] at hA
    subst hA
    rw [hrun] at q
    simp [wipeA]
    exact Gc.same cl_yv q
def fbR (R : List Nat) : Nat → List PV → Option Nat
  | _, [] => none
  | i, p :: r => if rwB R p then fbR R (i + 1) r else some i
structure okP (p : PV) : Prop where
  d : dpv 64 p = true
  b : dab 20 p = true
  k : rwK p = true
theorem made_code_sp {l : List PV} {n : Nat} (hR : okR R) (hd : dab n (.tup l) = true) (hl : ∀ p ∈ l, okP p) (hc : DN.cls l = true) (q1 : fbR R 0 l = none → Q (.tup l) st) (q2 : ∀ i, fbR R 0 l = some i → Xp "BadCode" (.int i) st) : (wpX Xp) (made_code [rv R, .tup l] st) Q := by
  refine wp_fn ?_
  simp
  refine made_rooms_spec hR ?_
  simp [wp_isTup hd, isTp]
  refine wps_forLo (fun m σ st' => ∃ i r, m = DN.numbered i r ∧ σ = [some (rv R), some (.tup l), none, none] ∧ st = st' ∧ (∀ p ∈ r, p ∈ l) ∧ fbR R 0 l = fbR R i r) _ ?_ ?_ ⟨0, l, rfl, rfl, rfl, fun _ h => h, rfl⟩
  · rintro I hI p m σ st' ⟨i, r, e, rfl, rfl, hm, e2⟩
    cases r with
    | nil => cases e
    | cons a r =>
      simp only [DN.numbered, List.cons.injEq] at e
      obtain ⟨rfl, rfl⟩ := e
      have ha := hl a (hm _ List.mem_cons_self)
      simp
      refine code_row_spec ha.d ha.b ha.k ?_
      simp
      cases h : rwB R a with
      | false =>
        simp
        exact Gc.same (by simp) (q2 i (by rw [e2]; simp [fbR, h]))
      | true =>
        simp [wipeA]
        exact hI _ _ _ ⟨_, _, rfl, rfl, rfl, fun p hp => hm p (List.mem_cons_of_mem _ hp), by rw [e2]; simp [fbR, h]⟩
  · rintro σ st' ⟨i, r, e, rfl, rfl, hm, e2⟩
    cases r with
    | nil =>
      try simp [wipeA]
      exact Gc.same (by simpa using hc) (q1 (by rw [e2]; rfl))
    | cons a r => cases e
end
end Lib
namespace Lib
open PySem PySem.Spec PyProof.Rows L2 DN
variable {Xp : EP}
section
variable {Q : PV → Store → Prop} {st : Store} {F : List Pl} {x : Nat} {sep : Str}
theorem txt_join {l : List Str} : Txt.join sep l = Str.join sep l := PySem.StrLaws.glued_eq_join sep l
theorem join_cons2 {x y : Str} {r : List Str} : Str.join sep (x :: y :: r) = x ++ sep ++ Str.join sep (y :: r) := rfl
theorem join_ok (hs : PyData.strOk sep = true) : ∀ l : List Str, (∀ t ∈ l, PyData.strOk t = true) → PyData.strOk (Txt.join sep l) = true
  | [], _ => by rw [txt_join, show Str.join sep [] = Str.empty from rfl]; decide +kernel
  | [x], h => by rw [txt_join]; exact h x (by simp)
  | x :: y :: r, h => by
    have ih := join_ok hs (y :: r) fun t ht => h t (by simp [ht])
    rw [txt_join] at ih ⊢
    rw [join_cons2]
    exact ok_app (ok_app (h x (by simp)) hs) ih
theorem join_len {b : Nat} : ∀ l : List Str, (∀ t ∈ l, t.length ≤ b) → (Txt.join sep l).length ≤ l.length * (b + sep.length)
  | [], _ => by rw [txt_join]; simp [Str.join]; decide
  | [x], h => by
    rw [txt_join]
    have := h x (by simp)
    show x.length ≤ _
    simp
    omega
  | x :: y :: r, h => by
    have ih := join_len (y :: r) fun t ht => h t (by simp [ht])
    have hx := h x (by simp)
    rw [txt_join] at ih ⊢
    rw [join_cons2, app_len, app_len, List.length_cons, Nat.succ_mul]
    omega
end
end Lib
namespace Lib
open PySem PySem.Spec PyProof.Rows L2 DN
variable {Xp : EP}
section
variable {Q : PV → Store → Prop} {st : Store} {F : List Pl} {R : List Nat} {x y a n : Nat} {p v f w : PV} {J s c : Str} {i j : Int} {gs rs : List Rw}
def isWr : Rw → Bool
  | .wr _ => true
  | _ => false
def wtx : Rw → Str
  | .wr s => s
  | _ => Str.empty
theorem runY_ok {R : List Nat} : ∀ {rs : List Rw} {Y Y' : Yd}, okY R Y → (∀ r ∈ rs, okRw R r ∧ txR r) → runY Y rs = .ok Y' → okY R Y'
  | [], Y, Y', hY, _, h => by cases h; exact hY
  | r :: rs, Y, Y', hY, hr, h => by
    simp only [runY] at h
    cases hs : stY Y r with
    | error e => rw [hs] at h; cases h
    | ok Y2 =>
      rw [hs] at h
      exact runY_ok (stY_ok hY (hr r (by simp)).1 (hr r (by simp)).2 hs) (fun r h => hr r (by simp [h])) h
theorem emp_len : Str.empty.length = 0 := rfl
theorem fbn : ∀ (l : List Rw) (i : Nat), (∀ r ∈ l, okRw R r) → fbR R i (l.map rwv) = none
  | [], _, _ => rfl
  | r :: l, i, h => by
    simp only [List.map_cons, fbR, rwB_rwv (h r (by simp)), if_true]
    exact fbn l _ fun r' h' => h r' (by simp [h'])
theorem okP_rwv {r : Rw} (h : txR r) : okP (rwv r) := ⟨dpv_rwv fun s e => (h s e).1, dab_rwv fun s e => (h s e).1, rwK_rwv⟩
theorem cls_rwvs {l : List Rw} : DN.cls (l.map rwv) = true := cls_iff.mpr fun p hp => by
  obtain ⟨r, _, rfl⟩ := List.mem_map.mp hp
  exact cl_rwv
theorem dabT21 {l : List PV} (h : ∀ p ∈ l, dab 20 p = true) : dab 21 (.tup l) = true := by
  simp only [dab, List.all_eq_true]
  exact h
theorem made_code_ok (hR : okR R) (hr : ∀ r ∈ gs, okRw R r ∧ txR r) (q : Q (.tup (gs.map rwv)) st) : (wpX Xp) (made_code [rv R, .tup (gs.map rwv)] st) Q := by
  have hm : ∀ p ∈ gs.map rwv, okP p := fun p hp => by
    obtain ⟨r, h1, rfl⟩ := List.mem_map.mp hp
    exact okP_rwv (hr r h1).2
  exact made_code_sp hR (dabT21 fun p hp => (hm p hp).b) hm cls_rwvs (fun _ => q) fun i e => by
    rw [fbn gs 0 fun r h => (hr r h).1] at e
    cases e
end
end Lib
namespace Lib
open PySem PySem.Spec PyProof.Rows L2 DN
section
theorem app_list {a b : Str} : (a ++ b).cps.toList = a.cps.toList ++ b.cps.toList := by
  show (a.cps ++ b.cps).toList = _
  simp
theorem str_list {a b : Str} (h : a.cps.toList = b.cps.toList) : a = b := by
  obtain ⟨⟨a⟩⟩ := a
  obtain ⟨⟨b⟩⟩ := b
  simp at h
  rw [h]
theorem join0_len (l : List Str) : (Txt.join "" l).length = (l.map (·.length)).sum := by
  rw [txt_join, show ("" : Str) = Str.empty by decide]
  induction l with
  | nil => rfl
  | cons p l ih =>
    cases l with
    | nil => simp [Str.join]
    | cons q l =>
      show ((p ++ Str.empty) ++ Str.join Str.empty (q :: l)).length = _
      rw [app_len, app_len, ih]
      simp
      rfl
end
end Lib
set_option maxHeartbeats 2000000
namespace DN
open PySem PySem.Spec PyProof.Rows L2
def qL : Nat → PV → Bool
  | _, .non => true
  | _, .bl _ => true
  | _, .int i => decide (i.natAbs < 10 ^ 40)
  | _, .str x => PyData.strOk x && decide (x.cps.size ≤ 1500)
  | n + 1, .tup l => l.all (qL n)
  | n + 1, .lst l => l.all (qL n)
  | _, _ => false
def szL : Nat → PV → Nat
  | n + 1, .tup l => 1 + (l.map (szL n)).sum
  | n + 1, .lst l => 1 + (l.map (szL n)).sum
  | _, .str _ => 10
  | _, _ => 1
structure Ql0 (n m : Nat) (d : PyData) : Prop where
  lay : PyData.canLay0 d = true
  dep : PyData.depth d ≤ n
  sho : PyData.showable d = true
  int : PyData.intsShort 60 d = true
  wt : PyData.weight d + 1 ≤ 200 * m
structure QlA (n m : Nat) (ds : List PyData) : Prop where
  lay : PyData.canLayAll0 ds = true
  dep : PyData.depthAll ds ≤ n
  sho : PyData.showableAll ds = true
  int : PyData.intsShortAll 60 ds = true
  wt : PyData.weightAll ds ≤ 200 * m
theorem qlA_of {n : Nat} (ih : ∀ p, qL n p = true → ∃ d, toD0 p = some d ∧ Ql0 n (szL n p) d) : ∀ l : List PV, l.all (qL n) = true → ∃ ds, toD0s l = some ds ∧ QlA n (l.map (szL n)).sum ds
  | [], _ => ⟨[], rfl, ⟨rfl, Nat.zero_le _, rfl, rfl, Nat.zero_le _⟩⟩
  | p :: l, h => by
    simp only [List.all_cons, Bool.and_eq_true] at h
    obtain ⟨d, e, a⟩ := ih p h.1
    obtain ⟨ds, es, b⟩ := qlA_of ih l h.2
    refine ⟨d :: ds, by simp [toD0s, e, es], ⟨by simp [PyData.canLayAll0, a.lay, b.lay], ?_, by simp [PyData.showableAll, a.sho, b.sho], by simp [PyData.intsShortAll, a.int, b.int], ?_⟩⟩
    · simp only [PyData.depthAll]; exact Nat.max_le.mpr ⟨a.dep, b.dep⟩
    · have h1 := a.wt
      have h2 := b.wt
      simp only [PyData.weightAll, List.map_cons, List.sum_cons]
      omega
theorem ql0_of : ∀ (n : Nat) (p : PV), qL n p = true → ∃ d, toD0 p = some d ∧ Ql0 n (szL n p) d := by
  intro n
  induction n with
  | zero =>
    intro p h
    cases p <;> simp only [qL, Bool.false_eq_true] at h
    · exact ⟨_, rfl, ⟨rfl, Nat.zero_le _, rfl, rfl, by simp [PyData.weight, szL]⟩⟩
    · exact ⟨_, rfl, ⟨rfl, Nat.zero_le _, rfl, rfl, by simp [PyData.weight, szL]⟩⟩
    · have h := of_decide_eq_true h
      have := int_wt h
      exact ⟨_, rfl, ⟨rfl, Nat.zero_le _, by simp [PyData.showable, this.2], int_short h, by simp only [szL]; omega⟩⟩
    · simp only [Bool.and_eq_true, decide_eq_true_eq] at h
      exact ⟨_, rfl, ⟨by simpa [PyData.canLay0] using h.1, Nat.zero_le _, rfl, rfl, by simp only [PyData.weight, szL]; omega⟩⟩
  | succ n ih =>
    intro p h
    cases p with
    | tup l =>
      obtain ⟨ds, e, a⟩ := qlA_of ih l (by simpa only [qL] using h)
      refine ⟨.tuple ds, by simp [toD0, e], ⟨by simpa [PyData.canLay0] using a.lay, by simpa [PyData.depth] using a.dep, by simpa [PyData.showable] using a.sho, by simpa [PyData.intsShort] using a.int, ?_⟩⟩
      have := a.wt
      simp only [PyData.weight, szL]
      omega
    | lst l =>
      obtain ⟨ds, e, a⟩ := qlA_of ih l (by simpa only [qL] using h)
      refine ⟨.list ds, by simp [toD0, e], ⟨by simpa [PyData.canLay0] using a.lay, by simpa [PyData.depth] using a.dep, by simpa [PyData.showable] using a.sho, by simpa [PyData.intsShort] using a.int, ?_⟩⟩
      have := a.wt
      simp only [PyData.weight, szL]
      omega
    | non => exact ⟨_, rfl, ⟨rfl, Nat.zero_le _, rfl, rfl, by simp [PyData.weight, szL]⟩⟩
    | bl b => exact ⟨_, rfl, ⟨rfl, Nat.zero_le _, rfl, rfl, by simp [PyData.weight, szL]⟩⟩
    | int i =>
      have h := of_decide_eq_true (by simpa only [qL] using h)
      have := int_wt h
      exact ⟨_, rfl, ⟨rfl, Nat.zero_le _, by simp [PyData.showable, this.2], int_short h, by simp only [szL]; omega⟩⟩
    | str x =>
      simp only [qL, Bool.and_eq_true, decide_eq_true_eq] at h
      exact ⟨_, rfl, ⟨by simpa [PyData.canLay0] using h.1, Nat.zero_le _, rfl, rfl, by simp only [PyData.weight, szL]; omega⟩⟩
    | _ => simp [qL] at h
theorem wp_rpL {X : EP} {Q : PV → Store → Prop} {st : Store} {p : PV} {n : Nat} (h : qL n p = true) (hn : n ≤ 64) (hz : szL n p ≤ 1000) : wpX X (qRepr [p] st) Q = Q (.str (rp p)) st := by
  obtain ⟨d, e, a⟩ := ql0_of n p h
  have hl := PyData.leavesShort_of_canLay0 60 d a.lay a.int
  have hs := PyData.shown_le 60 (by decide) d hl
  have hw := a.wt
  have ok : shOk d := ⟨shaped_of a.lay (by have := a.dep; omega), a.sho, by simp only [SZ_lit]; omega⟩
  simp only [qRepr, toD_of0 e, ok, if_true, wp_ok, rp, e]
end DN
set_option maxHeartbeats 4000000
namespace K86
open PySem PySem.Spec PyProof.Rows L2 DN Lib
variable {Xp : EP}
section
variable {Q : PV → Store → Prop} {st : Store} {F G T : List Pl} {R M : List Nat} {x y n s : Nat} {p v w : PV} {i j : Int}
theorem pos_not : ∀ {l : List Nat} {x : Nat}, x ∉ l → pos l x = l.length
  | [], _, _ => rfl
  | a :: l, x, h => by
    have h1 : ¬ a = x := fun e => h (by simp [e])
    have h2 : x ∉ l := fun e => h (by simp [e])
    simp [pos, h1, pos_not h2]
def PC (R M : List Nat) (F : List Pl) : Prop := ∀ (x : Nat) (q : Nat × Nat), up F x = some q → q.1 ∈ M ∧ q.2 < rm R q.1 ∧ pos M q.1 < pos M x
theorem pc_fo (hM : ∀ a ∈ M, a < R.length) (hl : F.length = R.length) (h : PC R M F) : okF R F ∧ Fo F := by
  have hok : okF R F := ⟨hl, fun x hx q hq => by
    obtain ⟨h1, h2, h3⟩ := h x q hq
    refine ⟨hM _ h1, fun e => ?_, h2⟩
    rw [e] at h3
    omega⟩
  exact ⟨hok, ⟨hok.wf, noR_rank hok.wf (pos M) fun x q hq => (h x q hq).2.2⟩⟩
theorem pc_set {q : Nat × Nat} (hx : x < F.length) (h : PC R M F) (h1 : q.1 ∈ M) (h2 : q.2 < rm R q.1) (h3 : pos M q.1 < pos M x) : PC R M (F.set x (some q)) := fun y p hp => by
  rw [up_set hx] at hp
  by_cases e : y = x
  · rw [if_pos e] at hp
    cases hp
    rw [e]
    exact ⟨h1, h2, h3⟩
  · rw [if_neg e] at hp
    exact h y p hp
theorem chain_law (hs : SrcAt st s) (hR : okR R) (q : ∀ F st', okF R F → Fo F → Dr s st st' → Q (fv F) st') : (wpX Xp) (d__law_chain [.ref s, rv R] st) Q := by
  have h24 := hR.1
  have hlt := hs.lt
  refine wp_fn ?_
  refine wps_seqK fun K hK => ?_
  simp [lenR]
  refine ⟨rgN (by omega), ?_⟩
  rw [rgP_nat]
  refine wp_lcF (g := fun i : Nat => PV.int i) (fun i => decide (0 < rm R i)) nv (List.range R.length) (fun i hi => ?_) ?_
  · have hi := List.mem_range.mp hi
    simp [wipeA, ixRv hi, nv]
  have hll := List.length_filter_le (fun i => decide (0 < rm R i)) (List.range R.length)
  simp only [List.length_range] at hll
  refine ⟨by rw [List.length_map]; omega, ?_⟩
  refine mixed_spec rfl hs (by omega) fun M st1 hM hd1 => ?_
  have hMl : M.length ≤ R.length := by rw [hM.length_eq]; exact hll
  have hMn : M.Nodup := hM.nodup_iff.mpr (List.nodup_range.filter _)
  have hMm : ∀ a, a ∈ M ↔ a < R.length ∧ 0 < rm R a := fun a => by
    rw [hM.mem_iff]
    simp
  refine ⟨rgN (by omega), ?_⟩
  refine wp_lcA (g := fun i : Nat => PV.int i) (fun _ => PV.non) (List.range R.length) (fun i _ => by simp [wipeA]) ?_
  obtain ⟨F0, hF0, hF0n, e0⟩ : ∃ F0 : List Pl, F0.length = R.length ∧ PC R M F0 ∧ (List.range R.length).map (fun _ => PV.non) = F0.map Lib.pv := by
    refine ⟨List.replicate R.length none, by simp, fun x q h => ?_, ?_⟩
    · have := up_mem h
      simp at this
    · rw [List.map_const']
      simp [Lib.pv]
  rw [e0]
  refine ⟨by simp; omega, ?_⟩
  obtain ⟨k, hk⟩ : ∃ k, k = st.length := ⟨_, rfl⟩
  have g0 : ∀ {x : Store} {A : List PV}, Dr s st x → (x ++ [SO.lst A])[k]? = some (.lst A) := fun {x A} h => by rw [hk, ← h.len]; simp
  have s0 : ∀ {x : Store} {A B : List PV}, Dr s st x → (x ++ [SO.lst A]).set k (.lst B) = x ++ [.lst B] := fun {x A B} h => by rw [hk, ← h.len]; simp
  have ap : ∀ {x st' : Store} {T : List SO}, Dr s st x → Dr s (x ++ T) st' → ∃ x', st' = x' ++ T ∧ Dr s st x' := fun {x st' T} h1 h2 => by
    obtain ⟨x', e, h3⟩ := Dr.app (by rw [h1.len]; omega) h2
    exact ⟨x', e, h1.trans h3⟩
  rw [show st1.length = k by rw [hd1.len, hk]]
  refine hK _ _ ?_
  clear hK K
  refine wps_seqK fun K hK => ?_
  simp
  refine ⟨rgN (n := 1) (by omega), rgN (by omega), ?_⟩
  refine wps_forRo (fun i σ st' => ∃ (m : Nat) (F : List Pl) (x : Store), i = (m : Int) + 1 ∧ σ = [some (.ref s), some (rv R), none, some (.lst (M.map nv)), some (.ref k), none, none] ∧ st' = x ++ [.lst (F.map Lib.pv)] ∧ Dr s st x ∧ F.length = R.length ∧ PC R M F) ?_ ?_ ⟨0, F0, st1, by omega, rfl, rfl, hd1, hF0, hF0n⟩
  · rintro I hI i σ st' ⟨m, F, x, rfl, rfl, rfl, hd, hF, hP⟩ hi
    have hm : m + 1 < M.length := by omega
    have ha : M[m + 1]? = some M[m + 1] := List.getElem?_eq_getElem hm
    have hb : M[m]? = some M[m] := List.getElem?_eq_getElem (by omega)
    have ma := (hMm _).mp (List.getElem_mem hm)
    have mb := (hMm _).mp (List.getElem_mem (show m < M.length by omega))
    have ib : M[m] ∈ M := List.getElem_mem _
    have pa := pos_at hMn ha
    have pb := pos_at hMn hb
    generalize M[m + 1] = a at *
    generalize M[m] = b at *
    have h4 := rm_le (x := b) hR
    simp
    refine ⟨nv b, atI_nv hb, nv b, atI_nv hb, ?_⟩
    simp [nv, ixRv mb.1]
    refine takeN (hd.src hs).app mb.2 (by omega) fun r st2 hr hdb => ?_
    obtain ⟨x2, rfl, hd2⟩ := ap hd hdb
    refine ⟨nv a, by simpa using atI_nv ha, ?_⟩
    simp only [nv]
    refine wp_setL (l := F.map Lib.pv) (j := a) (g0 hd2) (by rw [List.length_map]; exact ixN_nat (by omega)) ?_
    rw [s0 hd2, show PV.tup [.int b, .int r] = Lib.pv (some (b, r)) from rfl]
    simp [wipeA]
    exact hI _ _ _ ⟨m + 1, F.set a (some (b, r)), x2, by omega, rfl, by rw [List.map_set], hd2, by simpa using hF, pc_set (by omega) hP ib hr (show pos M b < pos M a by omega)⟩
  rintro i σ st' ⟨m, F, x, rfl, rfl, rfl, hd, hF, hP⟩ hi
  simp [wipeA]
  refine hK _ _ ?_
  clear hK K hd1
  refine wps_seqK fun K hK => ?_
  have go : ∀ (F : List Pl) x v5, Dr s st x → F.length = R.length → PC R M F → K [some (.ref s), some (rv R), none, some (.lst (M.map nv)), some (.ref k), v5, none] (x ++ [.lst (F.map Lib.pv)]) := fun F x v5 hd hF hP => by
    refine hK _ _ ?_
    clear hK K
    simp
    rw [wp_tupR (g0 hd)]
    obtain ⟨h1, h2⟩ := pc_fo (fun a h => ((hMm a).mp h).1) hF hP
    exact Gc.dr (s := s) (cl_fvM (F := F)) hd rfl (q F x h1 h2 hd)
  rw [wps_if]
  simp
  rw [wp_neNil dab_nvs]
  by_cases c : M = []
  · subst c
    simp
    exact go F x none hd hF hP
  have c' : M.isEmpty = false := by simpa using c
  have hpos : 0 < M.length := List.length_pos_iff.mpr c
  have hl : M[M.length - 1]? = some M[M.length - 1] := List.getElem?_eq_getElem (by omega)
  have il : M[M.length - 1] ∈ M := List.getElem_mem _
  have ml := (hMm _).mp il
  have pl := pos_at hMn hl
  generalize M[M.length - 1] = b at *
  simp [c']
  refine ⟨nv b, ?_, ?_⟩
  · rw [show (M.length : Int) - 1 = ((M.length - 1 : Nat) : Int) by omega]
    exact atI_nv hl
  simp [lenR]
  refine ⟨rgN (by omega), ?_⟩
  refine wps_forRo (fun i σ st' => ∃ (m : Nat) (F : List Pl) (x : Store), i = (m : Int) ∧ m ≤ R.length ∧ σ = [some (.ref s), some (rv R), none, some (.lst (M.map nv)), some (.ref k), some (.int b), none] ∧ st' = x ++ [.lst (F.map Lib.pv)] ∧ Dr s st x ∧ F.length = R.length ∧ PC R M F) ?_ ?_ ⟨0, F, x, by omega, by omega, rfl, rfl, hd, hF, hP⟩
  · rintro I hI i σ st' ⟨m, F, x, rfl, hmR, rfl, rfl, hd, hF, hP⟩ hi
    have hm : m < R.length := by omega
    have h4 := rm_le (x := b) hR
    have nxt : ∀ (F : List Pl) x, Dr s st x → F.length = R.length → PC R M F → I (m + 1) [some (.ref s), some (rv R), none, some (.lst (M.map nv)), some (.ref k), some (.int b), none] (x ++ [.lst (F.map Lib.pv)]) := fun F x hd hF hP => hI _ _ _ ⟨m + 1, F, x, by omega, by omega, rfl, rfl, hd, hF, hP⟩
    rw [wp_tName]
    simp only [List.set]
    rw [wps_if]
    simp [ixRv hm]
    by_cases c0 : rm R m = 0
    · simp [c0]
      refine takeN (top := 2) (hd.src hs).app (by omega) (by omega) fun w st2 hw hdb => ?_
      obtain ⟨x2, rfl, hd2⟩ := ap hd hdb
      simp
      by_cases c1 : w = 0
      · simp [c1, ixRv ml.1]
        refine takeN (hd2.src hs).app ml.2 (by omega) fun r st3 hr hdb => ?_
        obtain ⟨x3, rfl, hd3⟩ := ap hd2 hdb
        refine wp_setL (l := F.map Lib.pv) (j := m) (g0 hd3) (by rw [List.length_map]; exact ixN_nat (by omega)) ?_
        rw [s0 hd3, show PV.tup [.int b, .int r] = Lib.pv (some (b, r)) from rfl, ← List.map_set]
        have hmM : m ∉ M := fun h => by have := ((hMm m).mp h).2; omega
        have pm := pos_not hmM
        simpa [wipeA] using nxt (F.set m (some (b, r))) x3 hd3 (by simpa using hF) (pc_set (by omega) hP il hr (show pos M b < pos M m by omega))
      · simp [c1, wipeA]
        exact nxt F x2 hd2 hF hP
    · simp [c0, wipeA]
      exact nxt F x hd hF hP
  · rintro i σ st' ⟨m, F, x, rfl, hmR, rfl, rfl, hd, hF, hP⟩ hi
    simp [wipeA]
    exact go F x _ hd hF hP
theorem forest_law (hs : SrcAt st s) (hR : okR R) (q : ∀ F st', okF R F → Fo F → Dr s st st' → Q (fv F) st') : (wpX Xp) (d__law_forest [.ref s, rv R] st) Q := by
  refine wp_fn ?_
  simp
  refine takeN (top := 3) hs (by omega) (by omega) fun w st1 hw hd1 => ?_
  simp
  by_cases c : w = 0
  · simp [c]
    refine chain_law (hd1.src hs) hR fun F st2 h1 h2 hd2 => ?_
    exact Gc.dr0 (s := s) cl_fvM (hd1.trans hd2) (q F st2 h1 h2 (hd1.trans hd2))
  · simp [c]
    refine grown_spec (hd1.src hs) hR fun F st2 h1 h2 hd2 => ?_
    exact Gc.dr0 (s := s) cl_fvM (hd1.trans hd2) (q F st2 h1 ⟨h1.wf, h2⟩ (hd1.trans hd2))
end
end K86
namespace K86
open PySem PySem.Spec PyProof.Rows L2 DN Lib
variable {Xp : EP}
section
variable {Q : PV → Store → Prop} {st : Store} {F G T : List Pl} {R M : List Nat} {x y n s : Nat} {p v w : PV} {i j : Int}
theorem lift_ok (hF : okF R F) (o : Fo F) (hx : x < R.length) : okF R (F.set x none) ∧ Fo (F.set x none) := by
  have h := stY_ok (R := R) (Y := ⟨F, none, Str.empty⟩) (Y' := ⟨F.set x none, some x, Str.empty⟩) (r := .lift x) ⟨hF, o, fun a e => (by cases e), (show PyData.strOk Str.empty = true by decide +kernel)⟩ hx (fun s e => by cases e) (by simp [stY])
  exact ⟨h.hF, h.o⟩
theorem low_ok (hF : okF R F) (o : Fo F) (hx : x < R.length) (hu : up F x = none) {q : Nat × Nat} (h1 : q.1 < R.length) (h2 : q.2 < rm R q.1) (hn : q.1 ∉ wbn F x) : okF R (F.set x (some q)) ∧ Fo (F.set x (some q)) := by
  have h := stY_ok (R := R) (Y := ⟨F, some x, Str.empty⟩) (Y' := ⟨F.set x (some q), none, Str.empty⟩) (r := .low (some q)) ⟨hF, o, fun a e => (by cases e; exact ⟨hx, hu⟩), (show PyData.strOk Str.empty = true by decide +kernel)⟩ (fun p e => by cases e; exact ⟨h1, h2⟩) (fun s e => by cases e) (by simp [stY, hn])
  exact ⟨h.hF, h.o⟩
theorem changed_law (hs : SrcAt st s) (hR : okR R) (h0 : 0 < R.length) (hF : okF R F) (o : Fo F) (q : ∀ F st', okF R F → Fo F → Dr s st st' → Q (fv F) st') : (wpX Xp) (d__law_changed [.ref s, rv R, fv F] st) Q := by
  have h24 := hR.1
  refine wp_fn ?_
  refine wps_seqK fun K hK => ?_
  simp
  refine ⟨rgN (n := 2) (by omega), ?_⟩
  refine wps_forRo (fun i σ st' => ∃ (m : Nat) (F : List Pl), i = (m : Int) ∧ m ≤ 2 ∧ σ = [some (.ref s), some (rv R), some (fv F), none, none, none, none, none] ∧ okF R F ∧ Fo F ∧ Dr s st st') ?_ ?_ ⟨0, F, by omega, by omega, rfl, hF, o, .refl⟩
  · rintro I hI i σ st1 ⟨m, F, rfl, hm, rfl, hF, o, hd1⟩ hi
    have hFl := hF.1
    rw [wp_tName]
    simp only [List.set]
    refine wps_seqK fun K hK => ?_
    simp [lenR]
    refine takeN (hd1.src hs) h0 (by omega) fun x st2 hx hd2 => ?_
    have hd2 := hd1.trans hd2
    refine hK _ _ ?_
    clear hK K
    refine wps_seqK fun K hK => ?_
    simp
    rw [show PV.non = Lib.pv none from rfl]
    refine put_sp (by omega) (by omega) ?_
    obtain ⟨hG, oG⟩ := lift_ok hF o hx
    have hu : up (F.set x none) x = none := by rw [up_set (by omega), if_pos rfl]
    generalize F.set x none = G at *
    have hGl := hG.1
    refine hK _ _ ?_
    clear hK K
    refine wps_seqK fun K hK => ?_
    simp [lenR]
    refine ⟨rgN (by omega), ?_⟩
    rw [rgP_nat]
    refine wp_lcF (g := fun i : Nat => PV.int i) (fun i => decide (0 < rm R i) && !decide (i = x)) nv (List.range R.length) (fun i hi => ?_) ?_
    · have hi := List.mem_range.mp hi
      by_cases c : 0 < rm R i
      · simp [wipeA, ixRv hi, nv, c]
        omega
      · simp [wipeA, ixRv hi, nv, c]
    obtain ⟨l, hl⟩ : ∃ l, l = (List.range R.length).filter fun i => decide (0 < rm R i) && !decide (i = x) := ⟨_, rfl⟩
    rw [← hl]
    have hlm : ∀ i ∈ l, i < R.length ∧ 0 < rm R i ∧ i ≠ x := fun i hi => by rw [hl] at hi; simpa using hi
    have hll : l.length ≤ 24 := by
      have := List.length_filter_le (fun i => decide (0 < rm R i) && !decide (i = x)) (List.range R.length)
      rw [hl]
      simp at this
      omega
    refine ⟨by rw [List.length_map]; omega, hK _ _ ?_⟩
    clear hK K
    refine wps_seqK fun K hK => ?_
    simp
    refine wp_lcF (g := nv) (fun i => !decide (x ∈ abv G i)) nv l (fun i hi => ?_) ?_
    · have hi := hlm i hi
      simp [wipeA]
      rw [show nv i = .int i from rfl]
      refine climb_spec oG.wf (by omega) (by omega) ?_
      simp
      rw [show clb G G.length (up G i) = An G i from rfl]
      refine wp_lcA (g := pp) (fun e => nv e.1) (An G i) (fun e _ => by simp [wipeA, pp, nv]) ?_
      have hAl : (An G i).length ≤ G.length := clb_len _ _
      refine ⟨by rw [List.length_map]; omega, ?_⟩
      rw [show ((An G i).map fun e => nv e.1) = (abv G i).map nv by simp [abv, nv], show PV.int (x : Int) = nv x from rfl, wp_notInN]
      simp
    have hl2 := List.length_filter_le (fun i => !decide (x ∈ abv G i)) l
    have hlm2 : ∀ i ∈ l.filter (fun i => !decide (x ∈ abv G i)), i < R.length ∧ 0 < rm R i ∧ i ≠ x ∧ x ∉ abv G i := fun i hi => by
      obtain ⟨h1, h2⟩ := List.mem_filter.mp hi
      obtain ⟨a, b, c⟩ := hlm i h1
      exact ⟨a, b, c, by simpa using h2⟩
    generalize l.filter (fun i => !decide (x ∈ abv G i)) = l2 at *
    refine ⟨by rw [List.length_map]; omega, hK _ _ ?_⟩
    clear hK K
    have nxt : ∀ F st', okF R F → Fo F → Dr s st st' → ∀ v5 v6, I (m + 1) (wipeA [some (.ref s), some (rv R), some (fv F), some (.int m), some (.int x), v5, v6, none] [3, 4, 5, 6]) st' := fun F st' h1 h2 h3 v5 v6 => hI _ _ _ ⟨m + 1, F, by omega, by omega, by simp [wipeA], h1, h2, h3⟩
    rw [wps_if]
    simp
    rw [wp_neNil dab_nvs]
    by_cases c : l2 = []
    · subst c
      simp
      exact nxt G st2 hG oG hd2 _ _
    have c' : l2.isEmpty = false := by simpa using c
    simp [c']
    refine takeN (top := 2) (hd2.src hs) (by omega) (by omega) fun w st3 hw hd3 => ?_
    have hd3 := hd2.trans hd3
    simp
    by_cases c1 : w = 0
    · simp [c1]
      refine one_spec (hd3.src hs) (by simpa using c) (by simp; omega) cls_nvs fun v st4 hv hd4 => ?_
      have hd4 := hd3.trans hd4
      obtain ⟨y, hy, rfl⟩ := List.mem_map.mp hv
      obtain ⟨y1, y2, y3, y4⟩ := hlm2 y hy
      have r4 := rm_le (x := y) hR
      rw [show nv y = .int y from rfl]
      simp [ixRv y1]
      refine takeN (hd4.src hs) y2 (by omega) fun r st5 hr hd5 => ?_
      have hd5 := hd4.trans hd5
      rw [show PV.tup [.int y, .int r] = Lib.pv (some (y, r)) from rfl]
      refine put_sp (by omega) (by omega) ?_
      have hn : y ∉ wbn G x := fun h => ((wbn_ab (show y < G.length by omega)).mp h).elim y3 y4
      obtain ⟨g1, g2⟩ := low_ok hG oG hx hu (q := (y, r)) y1 hr hn
      exact nxt _ st5 g1 g2 hd5 _ _
    · simp [c1]
      exact nxt G st3 hG oG hd3 _ _
  · rintro i σ st1 ⟨m, F, rfl, hm, rfl, hF, o, hd1⟩ hi
    simp [wipeA]
    refine hK _ _ ?_
    clear hK K
    simp
    exact Gc.dr0 (s := s) cl_fvM hd1 (q F st1 hF o hd1)
end
end K86
namespace K86
open PySem PySem.Spec PyProof.Rows L2 DN Lib
variable {Xp : EP}
section
variable {Q : PV → Store → Prop} {st : Store} {F G T : List Pl} {R M : List Nat} {x y n s : Nat} {p v w : PV} {i j : Int}
def dp (T : List Pl) (x : Nat) : Nat := (An T x).length
def keyL (T : List Pl) (x : Nat) : List Key := [.inl (dp T x : Int), .inl (x : Int)]
def kx : List Key → Nat
  | [_, .inl i] => i.toNat
  | _ => 0
def dif (F T : List Pl) : List Nat := (List.range T.length).filter fun x => !decide (up F x = up T x)
def laid (F T : List Pl) : List Nat := (ksort ((dif F T).map (keyL T))).map kx
theorem mem_dif : x ∈ dif F T ↔ x < T.length ∧ up F x ≠ up T x := by simp [dif]
theorem laid_key : ksort ((dif F T).map (keyL T)) = (laid F T).map (keyL T) := by
  rw [laid, List.map_map]
  have : ∀ e ∈ ksort ((dif F T).map (keyL T)), e = (keyL T ∘ kx) e := fun e he => by
    obtain ⟨x, _, rfl⟩ := List.mem_map.mp ((ksort_perm _).mem_iff.mp he)
    simp [keyL, kx]
  conv => lhs; rw [← List.map_id (ksort _)]
  exact List.map_congr_left this
theorem laid_perm : (laid F T).Perm (dif F T) := by
  have := (ksort_perm ((dif F T).map (keyL T))).map kx
  rw [List.map_map] at this
  have e : (dif F T).map (kx ∘ keyL T) = dif F T := by
    conv => rhs; rw [← List.map_id (dif F T)]
    exact List.map_congr_left fun x _ => by simp [keyL, kx]
  rw [e] at this
  exact this
theorem laid_asc : (laid F T).Pairwise fun x y => dp T x ≤ dp T y := by
  have := ksort_sorted ((dif F T).map (keyL T))
  rw [laid_key, List.pairwise_map] at this
  refine this.imp fun {a b} h => ?_
  simp only [keyL, kLt] at h
  by_cases e : (Sum.inl (dp T b : Int) : Key) = Sum.inl (dp T a : Int)
  · have : (dp T b : Int) = dp T a := by simpa using e
    omega
  · rw [if_neg e] at h
    simp [aLt] at h
    omega
theorem laid_len (h : T.length ≤ 24) : (laid F T).length ≤ 24 := by
  rw [laid_perm.length_eq]
  have := List.length_filter_le (fun x => !decide (up F x = up T x)) (List.range T.length)
  simp at this
  exact Nat.le_trans this h
theorem ok_keys {l : List Nat} : okKs (l.map (keyL T)) = true := by
  simp only [okKs, List.all_eq_true, List.mem_map]
  rintro k ⟨a, _, rfl⟩ j ⟨b, _, rfl⟩
  simp [keyL, okp, okh]
  repeat' split
  all_goals simp
theorem pv_inj {a b : Pl} : Lib.pv a = Lib.pv b ↔ a = b := by
  cases a with
  | none => cases b <;> simp [Lib.pv, pp]
  | some a => cases b with
    | none => simp [Lib.pv, pp]
    | some b =>
      obtain ⟨a1, a2⟩ := a
      obtain ⟨b1, b2⟩ := b
      simp [Lib.pv, pp]
      omega
theorem ne_pv {a b : Pl} {X : EP} {QQ : PV → Store → Prop} {st : Store} : wpX X (pNe (Lib.pv a) (Lib.pv b) st) QQ = QQ (.bl (!decide (a = b))) st := by
  rw [wp_neD (dpv_pv (m := 63)) (dpv_pv (m := 63))]
  congr 3
  exact decide_eq_decide.mpr pv_inj
def rws (T : List Pl) (L : List Nat) : List PV := L.map fun x => pm (x, up T x)
theorem cls_rws {L : List Nat} : DN.cls (rws T L) = true := cls_map fun x => by
  cases h : up T x <;> simp [pm, Lib.pv, pp, h]
theorem laid_law (hl : F.length = T.length) (oT : Fo T) (hz : T.length ≤ 24) (q : Q (.lst (rws T (laid F T))) st) : (wpX Xp) (d__law_laid [fv F, fv T] st) Q := by
  refine wp_fn ?_
  refine wps_seqK fun K hK => ?_
  have lT : ∀ {X : EP} {QQ : PV → Store → Prop} {st : Store}, wpX X (qLen [fv T] st) QQ = QQ (.int T.length) st := fun {X QQ st} => by simp [fv]
  simp [lT]
  refine ⟨rgN (by omega), ?_⟩
  rw [rgP_nat]
  refine wp_lcF (g := fun i : Nat => PV.int i) (fun i => !decide (up F i = up T i)) (fun x => tkv (keyL T x)) (List.range T.length) (fun i hi => ?_) ?_
  · have hi := List.mem_range.mp hi
    simp [wipeA, ixFv (F := T) hi, ixFv (F := F) (show i < F.length by omega)]
    rw [ne_pv]
    simp
    intro _
    refine climb_spec oT.wf hi (by omega) ?_
    simp [tkv, keyL, kpv, dp]
    rfl
  rw [show (List.range T.length).filter (fun i => !decide (up F i = up T i)) = dif F T from rfl]
  have hdl : (dif F T).length ≤ 24 := by rw [← laid_perm.length_eq]; exact laid_len hz
  refine ⟨by rw [List.length_map]; omega, hK _ _ ?_⟩
  clear hK K
  simp
  rw [wp_srtT (l := (dif F T).map (keyL T)) (by simp [asI, asR]; rfl) ok_keys, laid_key]
  have hll := laid_len (F := F) hz
  have hlm : ∀ x ∈ laid F T, x < T.length := fun x h => (mem_dif.mp (laid_perm.mem_iff.mp h)).1
  rw [rws] at q
  simp
  refine wp_lcA (g := tkv ∘ keyL T) (fun x => pm (x, up T x)) (laid F T) (fun x hx => ?_) ?_
  · have hx := hlm x hx
    simp [wipeA, tkv, keyL, kpv, pm, ixFv hx]
  · refine ⟨by rw [List.length_map]; omega, Gc.same ?_ q⟩
    rw [cl_lst]
    exact cls_rws (T := T)
theorem up_getD : up T x = T.getD x none := by
  unfold up
  rw [List.getD_eq_getElem?_getD]
theorem lay_row_sp (hl : F.length = T.length) (oT : Fo T) (hz : T.length ≤ 24) (q : Q (.tup (rws T (laid F T))) st) : (wpX Xp) (d_lay_row [fv F, fv T] st) Q := by
  refine wp_fn ?_
  refine wps_seqK fun K hK => ?_
  simp
  rw [show fv T = .tup (T.map Lib.pv) from rfl]
  simp
  rw [numbered_map (d := none), show PV.tup (T.map Lib.pv) = fv T from rfl]
  refine wp_lcF (g := fun i : Nat => PV.tup [.int (0 + i : Nat), Lib.pv (T.getD i none)]) (fun i => !decide (up F i = up T i)) nv (List.range T.length) (fun i hi => ?_) ?_
  · have hi := List.mem_range.mp hi
    rw [← up_getD]
    simp [wipeA, ixFv (F := F) (show i < F.length by omega)]
    rw [ne_pv]
    simp [nv]
  rw [show (List.range T.length).filter (fun i => !decide (up F i = up T i)) = dif F T from rfl]
  have hdl : (dif F T).length ≤ 24 := by rw [← laid_perm.length_eq]; exact laid_len hz
  refine ⟨by rw [List.length_map]; omega, hK _ _ ?_⟩
  clear hK K
  refine wps_seqK fun K hK => ?_
  simp
  refine wp_lcA (g := nv) (fun x => tkv (keyL T x)) (dif F T) (fun i hi => ?_) ?_
  · have hi := (mem_dif.mp hi).1
    simp [wipeA]
    rw [show nv i = .int i from rfl]
    refine around_sp oT.wf oT.nr hi (by omega) ?_
    simp [tkv, keyL, kpv, dp, tv, abv]
  refine ⟨by rw [List.length_map]; omega, ?_⟩
  rw [wp_srtT (l := (dif F T).map (keyL T)) (by simp [asI, asR]; rfl) ok_keys, laid_key]
  refine hK _ _ ?_
  clear hK K
  have hll := laid_len (F := F) hz
  have hlm : ∀ x ∈ laid F T, x < T.length := fun x h => (mem_dif.mp (laid_perm.mem_iff.mp h)).1
  rw [rws] at q
  simp
  refine wp_lcA (g := tkv ∘ keyL T) (fun x => pm (x, up T x)) (laid F T) (fun x hx => ?_) ?_
  · have hx := hlm x hx
    simp [wipeA, tkv, keyL, kpv, pm, ixFv hx]
  · refine ⟨by rw [List.length_map]; omega, ?_⟩
    refine Gc.same ?_ q
    rw [cl_tup]
    exact cls_rws (T := T)
end
end K86
namespace K86
open PySem PySem.Spec PyProof.Rows L2 DN Lib
section
variable {F G T : List Pl} {R M A B : List Nat} {x y n s : Nat} {J : Str}
def pl (T : List Pl) (F : List Pl) (L : List Nat) : List Pl := L.foldl (fun G x => G.set x (up T x)) F
theorem pl_len : ∀ {L : List Nat} {F : List Pl}, (pl T F L).length = F.length
  | [], _ => rfl
  | x :: L, F => by
    show (pl T (F.set x (up T x)) L).length = _
    rw [pl_len]
    simp
theorem up_pl : ∀ {L : List Nat} {F : List Pl}, (∀ x ∈ L, x < F.length) → up (pl T F L) y = if y ∈ L then up T y else up F y
  | [], _, _ => by simp [pl]
  | x :: L, F, h => by
    show up (pl T (F.set x (up T x)) L) y = _
    rw [up_pl (fun z hz => by simpa using h z (by simp [hz])), up_set (h x (by simp))]
    by_cases h1 : y ∈ L
    · simp [h1]
    · by_cases h2 : y = x
      · subst h2
        simp
      · simp [h1, h2]
theorem forest_ext (hl : F.length = G.length) (h : ∀ x, x < F.length → up F x = up G x) : F = G := by
  refine List.ext_getElem hl fun i h1 h2 => ?_
  have := h i h1
  rw [up_getD, up_getD] at this
  simpa [h1, h2] using this
theorem pl_all (hl : F.length = T.length) : pl T F (laid F T) = T := by
  have hm : ∀ x ∈ laid F T, x < F.length := fun x h => by rw [hl]; exact (mem_dif.mp (laid_perm.mem_iff.mp h)).1
  refine forest_ext (by rw [pl_len, hl]) fun x hx => ?_
  rw [pl_len] at hx
  rw [up_pl hm]
  by_cases c : x ∈ laid F T
  · rw [if_pos c]
  · rw [if_neg c]
    have : ¬ x ∈ dif F T := fun h => c (laid_perm.mem_iff.mpr h)
    rw [mem_dif] at this
    exact Classical.byContradiction fun e => this ⟨by omega, e⟩
theorem agree (hl : F.length = T.length) (hL : laid F T = A ++ x :: B) (hz : y < T.length) (hd : dp T y < dp T x) : up (pl T F A) y = up T y := by
  have hm : ∀ z ∈ A, z < F.length := fun z h => by
    rw [hl]
    exact (mem_dif.mp (laid_perm.mem_iff.mp (by rw [hL]; simp [h]))).1
  rw [up_pl hm]
  by_cases c : y ∈ A
  · rw [if_pos c]
  · rw [if_neg c]
    refine Classical.byContradiction fun e => ?_
    have : y ∈ laid F T := laid_perm.mem_iff.mpr (mem_dif.mpr ⟨hz, e⟩)
    rw [hL] at this
    rcases List.mem_append.mp this with h | h
    · exact c h
    · rcases List.mem_cons.mp h with rfl | h
      · omega
      · have hp := laid_asc (F := F) (T := T)
        rw [hL] at hp
        have := (List.pairwise_cons.mp (List.pairwise_append.mp hp).2.1).1 y h
        omega
theorem dp_up (oT : Fo T) (hx : x < T.length) {q : Nat × Nat} (h : up T x = some q) : dp T q.1 < dp T x := by
  unfold dp
  rw [An_some oT hx (show up T x = some (q.1, q.2) from h)]
  simp
theorem An_agree (oT : Fo T) (oG : Fo G) (hl : G.length = T.length) (d : Nat) (hG : ∀ z, z < T.length → dp T z < d → up G z = up T z) : ∀ (m h : Nat), h < T.length → dp T h ≤ m → m < d → An G h = An T h := by
  intro m
  induction m with
  | zero =>
    intro h hh h0 hd
    cases e : up T h with
    | none => rw [An_none e, An_none (by rw [hG h hh (by omega), e])]
    | some q => have := dp_up oT hh e; omega
  | succ m ih =>
    intro h hh h0 hd
    cases e : up T h with
    | none => rw [An_none e, An_none (by rw [hG h hh (by omega), e])]
    | some q =>
      have h1 := dp_up oT hh e
      have e : up T h = some (q.1, q.2) := e
      rw [An_some oT hh e, An_some oG (by omega) (by rw [hG h hh (by omega), e]), ih q.1 (up_lt oT e) (by omega) (by omega)]
theorem not_in (oT : Fo T) (oG : Fo G) (hl : G.length = T.length) (hx : x < T.length) {q : Nat × Nat} (h : up T x = some q) (hG : ∀ z, z < T.length → dp T z < dp T x → up G z = up T z) : q.1 ∉ wbn G x := by
  have h : up T x = some (q.1, q.2) := h
  have hq := up_lt oT h
  have hd := dp_up oT hx h
  have hA := An_agree oT oG hl (dp T x) hG (dp T q.1) q.1 hq (Nat.le_refl _) hd
  have hn := oT.nr x hx
  have hA2 : An T x = (q.1, q.2) :: An T q.1 := An_some oT hx h
  have hin : inIt T x = (An T x).any fun h => decide (h.1 = x) := rfl
  rw [hin, hA2] at hn
  simp only [List.any_cons, Bool.or_eq_false_iff, decide_eq_false_iff_not] at hn
  rw [wbn_ab (by omega)]
  rintro (e | e)
  · exact hn.1 e
  · have : abv G q.1 = abv T q.1 := by unfold abv; rw [hA]
    rw [this] at e
    obtain ⟨p, hp, e⟩ := List.mem_map.mp e
    have := List.any_eq_false.mp hn.2 p hp
    simp [e] at this
def hg (T : List Pl) (x : Nat) : List Rw := [.lift x, .low (up T x)]
theorem stand_ok (hR : okR R) (hF : okF R F) (oF : Fo F) (hT : okF R T) (oT : Fo T) : ∀ (A B : List Nat), laid F T = A ++ B → okF R (pl T F A) ∧ Fo (pl T F A) := by
  intro A
  obtain ⟨n, hn⟩ : ∃ n, n = A.length := ⟨_, rfl⟩
  induction n generalizing A with
  | zero =>
    intro B _
    have : A = [] := List.length_eq_zero_iff.mp hn.symm
    subst this
    exact ⟨hF, oF⟩
  | succ n ih =>
    intro B hL
    rcases List.eq_nil_or_concat A with rfl | ⟨A, x, rfl⟩
    · simp at hn
    simp only [List.concat_eq_append] at hn hL ⊢
    rw [List.append_assoc] at hL
    obtain ⟨h1, h2⟩ := ih A (by simpa using hn) _ hL
    have hlT : F.length = T.length := by rw [hF.1, hT.1]
    have hx : x < T.length := (mem_dif.mp (laid_perm.mem_iff.mp (by rw [hL]; simp))).1
    have hxR : x < R.length := by rw [← hT.1]; exact hx
    have e : pl T F (A ++ [x]) = (pl T F A).set x (up T x) := by simp [pl, List.foldl_append]
    rw [e]
    cases hu : up T x with
    | none => exact lift_ok h1 h2 hxR
    | some q =>
      obtain ⟨g1, g2⟩ := lift_ok h1 h2 hxR
      have hq := hT.2 x hx q hu
      have hne := not_in oT g2 (by rw [List.length_set, pl_len, hlT]) hx hu fun z hz hd => by
        rw [up_set (by rw [pl_len]; omega), if_neg (fun e => by subst e; omega)]
        exact agree hlT hL hz hd
      have := low_ok g1 g2 hxR (by rw [up_set (by rw [pl_len]; omega), if_pos rfl]) hq.1 hq.2.2 hne
      rwa [List.set_set] at this
theorem run_laid (hR : okR R) (hF : okF R F) (oF : Fo F) (hT : okF R T) (oT : Fo T) : ∀ (B A : List Nat), laid F T = A ++ B → runY ⟨pl T F A, none, J⟩ (B.flatMap (hg T)) = .ok ⟨T, none, J⟩ := by
  have hlT : F.length = T.length := by rw [hF.1, hT.1]
  intro B
  induction B with
  | nil =>
    intro A hL
    rw [List.append_nil] at hL
    rw [← hL, pl_all hlT]
    rfl
  | cons x B ih =>
    intro A hL
    obtain ⟨h1, h2⟩ := stand_ok hR hF oF hT oT A _ hL
    have hx : x < T.length := (mem_dif.mp (laid_perm.mem_iff.mp (by rw [hL]; simp))).1
    have hxR : x < R.length := by rw [← hT.1]; exact hx
    have hn := ih (A ++ [x]) (by rw [hL]; simp)
    have e : pl T F (A ++ [x]) = (pl T F A).set x (up T x) := by simp [pl, List.foldl_append]
    rw [e] at hn
    simp only [List.flatMap_cons, hg, List.cons_append, List.nil_append, runY, stY]
    cases hu : up T x with
    | none =>
      rw [hu] at hn
      simpa [List.set_set] using hn
    | some q =>
      rw [hu] at hn
      obtain ⟨g1, g2⟩ := lift_ok h1 h2 hxR
      have hne := not_in oT g2 (by rw [List.length_set, pl_len, hlT]) hx hu fun z hz hd => by
        rw [up_set (by rw [pl_len]; omega), if_neg (fun e => by subst e; omega)]
        exact agree hlT hL hz hd
      simp only [hne, if_false]
      simpa [List.set_set] using hn
end
end K86
namespace K86
open PySem PySem.Spec PyProof.Rows L2 DN Lib
variable {Xp : EP}
section
variable {Q : PV → Store → Prop} {st : Store} {F G T : List Pl} {R M A B : List Nat} {x y n s : Nat} {p v w : PV} {i j : Int}
theorem done_law (hR : okR R) (hF : okF R F) (oF : Fo F) (hT : okF R T) (oT : Fo T) (hL : laid F T = A ++ B) (q : Q (fv (pl T F A)) st) : (wpX Xp) (d__law_done [fv F, .lst (rws T A)] st) Q := by
  have h24 := hR.1
  have hlT : F.length = T.length := by rw [hF.1, hT.1]
  have hTl := hT.1
  refine wp_fn ?_
  refine wps_seqK fun K hK => ?_
  simp
  refine wps_forM (g := fun x => pm (x, up T x)) (fun r σ st' => ∃ D, D ++ r = A ∧ σ = [some (fv (pl T F D)), some (.lst (rws T A)), none, none, none] ∧ st' = st) A ?_ ?_ ⟨[], rfl, rfl, rfl⟩
  · rintro I hI x r σ st' ⟨D, hD, rfl, rfl⟩
    have hL2 : laid F T = D ++ x :: (r ++ B) := by rw [hL, ← hD]; simp
    obtain ⟨g1, g2⟩ := stand_ok hR hF oF hT oT D _ hL2
    have hx : x < T.length := (mem_dif.mp (laid_perm.mem_iff.mp (by rw [hL2]; simp))).1
    have hGl : (pl T F D).length = T.length := by rw [pl_len, hlT]
    have nxt : I r [some (fv ((pl T F D).set x (up T x))), some (.lst (rws T A)), none, none, none] st' := hI _ _ _ ⟨D ++ [x], by rw [← hD]; simp, by simp [pl, List.foldl_append], rfl⟩
    have hag := fun z (hz : z < T.length) hd => agree (B := r ++ B) hlT hL2 hz hd
    generalize pl T F D = G at *
    simp [pm]
    · cases hu : up T x with
      | none =>
        rw [hu] at nxt
        simp [show DN.isNon (Lib.pv none) = true from rfl]
        refine put_sp (by omega) (by omega) ?_
        simpa [wipeA] using nxt
      | some q =>
        rw [hu] at nxt
        have hne := not_in oT g2 hGl hx hu hag
        have hq := hT.2 x hx q hu
        have hqG : q.1 < G.length := by omega
        rw [wbn_ab hqG] at hne
        have n0 : DN.isNon (Lib.pv (some q)) = false := rfl
        have e : ¬ q.1 = x := fun e => hne (.inl e)
        have e' : ¬ ((q.1 : Int) = x) := by omega
        simp [n0]
        rw [show Lib.pv (some q) = .tup [.int q.1, .int q.2] from rfl]
        simp [e']
        refine climb_spec g2.wf hqG (by omega) ?_
        simp
        rw [show clb G G.length (up G q.1) = An G q.1 from rfl]
        refine wp_lcA (g := pp) (fun e => nv e.1) (An G q.1) (fun e _ => by simp [wipeA, pp, nv]) ?_
        have hAl : (An G q.1).length ≤ G.length := clb_len _ _
        refine ⟨by rw [List.length_map]; omega, ?_⟩
        rw [show ((An G q.1).map fun e => nv e.1) = (abv G q.1).map nv by simp [abv, nv], wp_inNL]
        have e2 : ¬ x ∈ abv G q.1 := fun e => hne (.inr e)
        simp [e2]
        rw [show PV.tup [.int q.1, .int q.2] = Lib.pv (some q) from rfl]
        refine put_sp (by omega) (by omega) ?_
        simpa [wipeA] using nxt
  · rintro σ st' ⟨D, hD, rfl, rfl⟩
    simp at hD
    subst hD
    simp [wipeA]
    refine hK _ _ ?_
    clear hK K
    simp
    exact Gc.same cl_fvM q
theorem lay_sp (hR : okR R) (hF : okF R F) (oF : Fo F) (hT : okF R T) (oT : Fo T) (q : Q (.tup (rws T (laid F T))) st) : (wpX Xp) (d_lay [rv R, fv F, fv T] st) Q := by
  have h24 := hR.1
  have hlT : F.length = T.length := by rw [hF.1, hT.1]
  have hTl := hT.1
  refine wp_fn ?_
  simp
  refine made_rooms_spec hR ?_
  refine made_forest_ok hR hF oF.nr ?_
  refine made_forest_ok hR hT oT.nr ?_
  refine lay_row_sp hlT oT (by omega) ?_
  exact Gc.same (by rw [cl_tup]; exact cls_rws) q
theorem emp_app {a : Str} : Str.empty ++ a = a := by
  show (⟨#[] ++ a.cps⟩ : Str) = a
  rw [Array.empty_append]
theorem app_assoc {a b c : Str} : a ++ b ++ c = a ++ (b ++ c) := by
  show (⟨a.cps ++ b.cps ++ c.cps⟩ : Str) = ⟨a.cps ++ (b.cps ++ c.cps)⟩
  rw [Array.append_assoc]
def nt (i : Int) : Str := Str.ofString (toString i)
def wd : Pl → Str
  | none => "-"
  | some q => nt q.1 ++ "." ++ nt q.2
def fw (T : List Pl) : Str := Txt.join "" (T.map fun p => " " ++ wd p)
theorem nt_len (h : i.natAbs < 10 ^ 40) : (nt i).length ≤ 41 := by
  have e := int_text_length_le10 (k := 40) (by decide) h
  show (Str.ofString (toString i)).length ≤ 41
  rw [PySem.ofString_length]
  omega
theorem nt_ok : PyData.strOk (nt i) = true := ok_of _
theorem nt_small (h : i.natAbs < 10 ^ 3) : (nt i).length ≤ 4 := by
  have e := int_text_length_le10 (k := 3) (by decide) h
  show (Str.ofString (toString i)).length ≤ 4
  rw [PySem.ofString_length]
  omega
theorem wd_ok {p : Pl} : PyData.strOk (wd p) = true := by
  cases p with
  | none => decide +kernel
  | some q => exact ok_app (ok_app nt_ok (by decide +kernel)) nt_ok
theorem wd_len {p : Pl} (h : ∀ q, p = some q → q.1 ≤ 100 ∧ q.2 ≤ 100) : (wd p).length ≤ 9 := by
  cases p with
  | none => decide
  | some q =>
    obtain ⟨h1, h2⟩ := h q rfl
    have a1 := nt_small (i := q.1) (by omega)
    have a2 := nt_small (i := q.2) (by omega)
    have e : ("." : Str).length = 1 := by decide
    simp only [wd, app_len, e]
    omega
theorem up_small (hR : okR R) (hT : okF R T) {p : Pl} (h : p ∈ T) : ∀ q, p = some q → q.1 ≤ 100 ∧ q.2 ≤ 100 := fun q e => by
  have h24 := hR.1
  obtain ⟨x, hx, e2⟩ := List.mem_iff_getElem.mp h
  have h1 := hT.2 x hx q (by rw [up_getD]; simp [hx, e2, e])
  have := rm_le (x := q.1) hR
  omega
theorem fw_ok : PyData.strOk (fw T) = true := join_ok (by decide +kernel) _ fun t ht => by
  obtain ⟨p, _, rfl⟩ := List.mem_map.mp ht
  exact ok_app (by decide +kernel) wd_ok
theorem fw_len (hR : okR R) (hT : okF R T) : (fw T).length ≤ 240 := by
  have h24 := hR.1
  have hl := hT.1
  have := join_len (sep := "") (b := 10) (T.map fun p => " " ++ wd p) fun t ht => by
    obtain ⟨p, hp, rfl⟩ := List.mem_map.mp ht
    have := wd_len (up_small hR hT hp)
    have e : (" " : Str).length = 1 := by decide
    rw [app_len, e]
    omega
  have e : ("" : Str).length = 0 := by decide
  rw [List.length_map, e] at this
  show (Txt.join "" _).length ≤ 240
  omega
end
end K86
namespace K86
open PySem PySem.Spec PyProof.Rows L2 DN Lib
variable {Xp : EP}
section
variable {Q : PV → Store → Prop} {st : Store} {F G T : List Pl} {R M A B L : List Nat} {x y n s : Nat} {p v w : PV} {i j : Int}
theorem lg (h : i.natAbs < 10 ^ 40) : i.natAbs.log2 < 1920 := by
  by_cases h0 : i.natAbs = 0
  · rw [h0]; decide
  · have : i.natAbs.log2 < 133 := (Nat.log2_lt h0).mpr (Nat.lt_trans h (by decide))
    omega
theorem wp_str {X : EP} {QQ : PV → Store → Prop} {st : Store} {i : Int} (h : i.natAbs < 10 ^ 40) : wpX X (qStr [.int i] st) QQ = QQ (.str (nt i)) st := by
  have hb : -B200 < i ∧ i < B200 := by
    simp only [B200_eq]
    omega
  simp only [qStr, if_pos hb, wp_ok]
  rfl
theorem en {a : Int} : Str.ofString a.repr = nt a := rfl
theorem word_sp {p : Pl} (h : ∀ q, p = some q → q.1 ≤ 100 ∧ q.2 ≤ 100) (q : Q (.str (wd p)) st) : (wpX Xp) (d_place_word [Lib.pv p] st) Q := by
  refine wp_fn ?_
  cases p with
  | none =>
    simp [show DN.isNon (Lib.pv none) = true from rfl]
    exact Gc.same (by simp) q
  | some g =>
    obtain ⟨a, b⟩ := g
    obtain ⟨h1, h2⟩ := h (a, b) rfl
    simp only at h1 h2
    have l1 := nt_small (i := a) (by omega)
    have l2 := nt_small (i := b) (by omega)
    simp [show DN.isNon (Lib.pv (some (a, b))) = false from rfl]
    rw [show Lib.pv (some (a, b)) = .tup [.int a, .int b] from rfl]
    simp
    rw [emp_app, en, en]
    have e : ("." : Str).length = 1 := by decide
    refine ⟨lg (i := a) (by omega), by omega, by rw [app_len, e]; omega, lg (i := b) (by omega), by rw [app_len, app_len, e]; omega, ?_⟩
    exact Gc.same (by simp) q
theorem spelled_sp {p : Pl} (h : ∀ q, p = some q → q.1 ≤ 100 ∧ q.2 ≤ 100) (q : Q (.str (wd p)) st) : (wpX Xp) (d__law_spelled [Lib.pv p] st) Q := by
  refine wp_fn ?_
  cases p with
  | none =>
    simp [show DN.isNon (Lib.pv none) = true from rfl]
    exact Gc.same (by simp) q
  | some g =>
    obtain ⟨a, b⟩ := g
    obtain ⟨h1, h2⟩ := h (a, b) rfl
    simp only at h1 h2
    have l1 := nt_small (i := a) (by omega)
    have l2 := nt_small (i := b) (by omega)
    simp [show DN.isNon (Lib.pv (some (a, b))) = false from rfl]
    rw [show Lib.pv (some (a, b)) = .tup [.int a, .int b] from rfl]
    simp
    have e : ("." : Str).length = 1 := by decide
    rw [wp_str (by omega)]
    simp
    refine ⟨by rw [e]; omega, ?_⟩
    rw [wp_str (by omega)]
    simp
    refine ⟨by rw [app_len, e]; omega, ?_⟩
    exact Gc.same (by simp) q
theorem words_join (hR : okR R) (hT : okF R T) {X : EP} {QQ : PV → Store → Prop} {st : Store} (q : QQ (.str (fw T)) st) : wpX X (mJoin (.str ("" : Str)) [.lst ((T.map fun p => " " ++ wd p).map .str)] st) QQ := by
  have h24 := hR.1
  have hl := hT.1
  have h1 : ((T.map fun p => " " ++ wd p).map (·.length)).sum ≤ 240 := by
    rw [← join0_len]
    exact fw_len hR hT
  have e : ("" : Str).length = 0 := by decide
  refine wp_join (l := T.map fun p => " " ++ wd p) (by simp [asL]) ?_ q
  rw [e]
  simp only [SZ_lit]
  omega
theorem fwords_sp (hR : okR R) (hT : okF R T) (q : Q (.str (fw T)) st) : (wpX Xp) (d_forest_words [fv T] st) Q := by
  have h24 := hR.1
  have hl := hT.1
  refine wp_fn ?_
  rw [show fv T = .tup (T.map Lib.pv) from rfl]
  simp
  refine wp_lcA (g := Lib.pv) (fun p => .str (" " ++ wd p)) T (fun p hp => ?_) ?_
  · simp [wipeA]
    refine word_sp (up_small hR hT hp) ?_
    have := wd_len (up_small hR hT hp)
    have e : (" " : Str).length = 1 := by decide
    simp [e]
    omega
  · refine ⟨by rw [List.length_map]; omega, ?_⟩
    rw [show (T.map fun p => PV.str (" " ++ wd p)) = (T.map fun p => " " ++ wd p).map PV.str by simp]
    refine words_join hR hT ?_
    exact Gc.same (by simp) q
def bt (T : List Pl) : Str := "0 base" ++ fw T ++ "\n"
theorem base_sp (hR : okR R) (hT : okF R T) (q : Q (.str (bt T)) st) : (wpX Xp) (d__law_base [fv T] st) Q := by
  have h24 := hR.1
  have hl := hT.1
  have hf := fw_len hR hT
  refine wp_fn ?_
  rw [show fv T = .tup (T.map Lib.pv) from rfl]
  simp
  refine wp_lcA (g := Lib.pv) (fun p => .str (" " ++ wd p)) T (fun p hp => ?_) ?_
  · simp [wipeA]
    refine spelled_sp (up_small hR hT hp) ?_
    have := wd_len (up_small hR hT hp)
    have e : (" " : Str).length = 1 := by decide
    simp [e]
    omega
  · refine ⟨by rw [List.length_map]; omega, ?_⟩
    rw [show (T.map fun p => PV.str (" " ++ wd p)) = (T.map fun p => " " ++ wd p).map PV.str by simp]
    refine words_join hR hT ?_
    have e1 : ("0 base" : Str).length = 6 := by decide
    have e2 : ("\n" : Str).length = 1 := by decide
    simp [e1, e2, app_len]
    refine ⟨by omega, by omega, ?_⟩
    exact Gc.same (by simp) q
def lt (n : Int) (T : List Pl) : Str := nt n ++ " lay" ++ fw T ++ "\n"
def sh (n : Int) : Str := nt n ++ " shut\n"
theorem lay_text_sp (hR : okR R) (hT : okF R T) (hi : i.natAbs < 10 ^ 20) (q : Q (.str (lt i T)) st) : (wpX Xp) (d_lay_text [.int i, fv T] st) Q := by
  have hf := fw_len hR hT
  have hn := nt_len (i := i) (by omega)
  have e1 : (" lay" : Str).length = 4 := by decide
  have e2 : ("\n" : Str).length = 1 := by decide
  refine wp_fn ?_
  simp
  rw [emp_app, en]
  refine ⟨lg (by omega), by omega, by rw [app_len, e1]; omega, ?_⟩
  refine fwords_sp hR hT ?_
  simp [app_len, e1, e2]
  refine ⟨by omega, by omega, ?_⟩
  exact Gc.same (by simp) q
theorem shut_sp (hi : i.natAbs < 10 ^ 20) (q : Q (.str (sh i)) st) : (wpX Xp) (d_shut_text [.int i] st) Q := by
  have hn := nt_len (i := i) (by omega)
  have e1 : (" shut\n" : Str).length = 6 := by decide
  refine wp_fn ?_
  simp
  rw [emp_app, en]
  refine ⟨lg (by omega), by omega, by rw [app_len, e1]; omega, ?_⟩
  exact Gc.same (by simp) q
end
end K86
namespace K86
open PySem PySem.Spec PyProof.Rows L2 DN Lib
variable {Xp : EP}
section
variable {Q : PV → Store → Prop} {st : Store} {F G T : List Pl} {R M A B L : List Nat} {x y n s : Nat} {p v w : PV} {i j : Int}
theorem hang_code_sp (hl : L.length ≤ 24) (q : Q (.tup ((L.flatMap (hg T)).map rwv)) st) : (wpX Xp) (d_hang_code [.tup (rws T L)] st) Q := by
  obtain ⟨k, hk⟩ : ∃ k, k = st.length := ⟨_, rfl⟩
  have g0 : ∀ {D : List PV}, (st ++ [SO.lst D])[k]? = some (.lst D) := fun {D} => by rw [hk]; simp
  have s0 : ∀ {D D' : List PV}, (st ++ [SO.lst D]).set k (.lst D') = st ++ [.lst D'] := fun {D D'} => by rw [hk]; simp
  refine wp_fn ?_
  refine wps_seqK fun K hK => ?_
  simp
  rw [← hk]
  refine hK _ _ ?_
  clear hK K
  refine wps_seqK fun K hK => ?_
  simp
  refine wps_forM (g := fun x => pm (x, up T x)) (fun r σ st' => ∃ D, D ++ r = L ∧ σ = [some (.tup (rws T L)), some (.ref k), none, none] ∧ st' = st ++ [.lst ((D.flatMap (hg T)).map rwv)]) L ?_ ?_ ⟨[], rfl, rfl, rfl⟩
  · rintro I hI x r σ st' ⟨D, hD, rfl, rfl⟩
    have hDl : D.length ≤ 24 := by rw [← hD] at hl; simp at hl; omega
    have hfl : (D.flatMap (hg T)).length ≤ 24 * 2 := by
      have : (D.flatMap (hg T)).length = D.length * 2 := by
        clear hD hDl hI
        induction D with
        | nil => rfl
        | cons a D ih => simp [hg] at ih ⊢; omega
      omega
    simp [pm]
    refine ⟨isL_ref g0, ?_⟩
    refine wp_extend (l := (D.flatMap (hg T)).map rwv) (m := (hg T x).map rwv) g0 rfl (by rw [List.length_map, List.length_map, show (hg T x).length = 2 from rfl]; simp only [SZ_lit]; omega) ?_
    rw [s0]
    simp [wipeA]
    refine hI _ _ _ ⟨D ++ [x], by rw [← hD]; simp, rfl, ?_⟩
    simp
  · rintro σ st' ⟨D, hD, rfl, rfl⟩
    simp at hD
    subst hD
    simp [wipeA]
    refine hK _ _ ?_
    clear hK K
    simp
    rw [wp_tupR g0]
    exact Gc.pure (junk := [.lst ((D.flatMap (hg T)).map rwv)]) (by rw [cl_tup]; exact cls_rwvs) rfl q
def codeR (i : Int) (T : List Pl) (L : List Nat) : List Rw := if L = [] then [] else .wr (lt i T) :: (L.flatMap (hg T) ++ [.wr (sh (i + 1))])
theorem dpv_rws : dpv 64 (.tup (rws T L)) = true := by
  simp only [dpv, rws, List.all_eq_true, List.mem_map]
  rintro p ⟨x, _, rfl⟩
  have h : dpv 62 (Lib.pv (up T x)) = true := dpv_pv (m := 61)
  simp only [pm, dpv, List.all_cons, List.all_nil, Bool.and_true, Bool.and_eq_true]
  exact ⟨trivial, h⟩
theorem want_sp (h : 1 ≤ i) (q : Q .non st) : (wpX Xp) (d_want_number [.int i] st) Q := by
  refine wp_fn ?_
  simp
  refine whole_spec (by rfl) ?_
  simp [isWh]
  rw [cnd_neg (decide_eq_false (by omega))]
  try simp
  exact Gc.same (by simp) q
theorem want_bad {X : EP} (h : i < 1) (q : X "BadNumber" (.int i) st) : wpX X (d_want_number [.int i] st) Q := by
  refine wp_fn ?_
  simp
  refine whole_spec (by rfl) ?_
  simp [isWh]
  rw [cnd_pos (decide_eq_true (by omega))]
  try simp
  exact Gc.same (by simp) q
theorem lay_code_sp (hR : okR R) (hF : okF R F) (oF : Fo F) (hT : okF R T) (oT : Fo T) (h1 : 1 ≤ i) (h2 : i < 10 ^ 18) (q : Q (.tup ((codeR i T (laid F T)).map rwv)) st) : (wpX Xp) (d_lay_code [rv R, fv F, fv T, .int i] st) Q := by
  have h24 := hR.1
  have hTl := hT.1
  have hll := laid_len (F := F) (T := T) (by omega)
  refine wp_fn ?_
  refine wps_seqK fun K hK => ?_
  simp
  refine lay_sp hR hF oF hT oT ?_
  refine hK _ _ ?_
  clear hK K
  refine wps_seqK fun K hK => ?_
  simp
  refine want_sp h1 ?_
  refine hK _ _ ?_
  clear hK K
  generalize laid F T = L at *
  by_cases c : L = []
  · subst c
    simp [rws]
    rw [wp_eqD (by rfl) (by rfl)]
    simp
    exact Gc.same (by simp) q
  · refine wps_seqK fun K hK => ?_
    refine wps_skip ?_ (hK _ _ ?_)
    · simp
      rw [wp_eqD dpv_rws (by rfl)]
      simp [rws, c]
    clear hK K
    simp
    refine lay_text_sp hR hT (by omega) ?_
    refine wp_fn ?_
    simp
    refine hang_code_sp hll ?_
    simp
    have sm : ∀ L : List Nat, (L.map fun a => (hg T a).length).sum = L.length * 2 := fun L => by
      induction L with
      | nil => rfl
      | cons a L ih => simp only [List.map_cons, List.sum_cons, ih, List.length_cons, show (hg T a).length = 2 from rfl]; omega
    rw [sm]
    refine ⟨by omega, ?_⟩
    refine shut_sp (by omega) ?_
    refine ⟨by omega, ?_⟩
    have e : PV.tup [.str (Str.ofString "write"), .str (lt i T)] :: ((L.flatMap (hg T)).map rwv ++ [PV.tup [.str (Str.ofString "write"), .str (sh (i + 1))]]) = (codeR i T L).map rwv := by
      rw [codeR, if_neg c]
      simp [rwv]
    rw [e]
    have hc : DN.cl (.tup ((codeR i T L).map rwv)) = true := by rw [cl_tup]; exact cls_rwvs
    exact Gc.same hc (Gc.same hc q)
end
end K86
set_option maxHeartbeats 2000000
namespace Lib
open PySem PySem.Spec PyProof.Rows L2 DN
section
variable {F G : List Pl} {R : List Nat} {x y z n : Nat} {t : Nat → Nat → List Sd} {L P : List Nat} {N N' : Ch} {pl : Pl} {m D : List (Nat × Pl)} {V W : List (List Nat × Pl)}
theorem Each.split {α β : Type} {r : α → β → Prop} : ∀ {as bs : List α} {ms : List β}, Each r (as ++ bs) ms → ∃ ma mb, ms = ma ++ mb ∧ Each r as ma ∧ Each r bs mb
  | [], bs, ms, h => ⟨[], ms, rfl, .nil, h⟩
  | a :: as, bs, _, .cons h1 h2 => by
    obtain ⟨ma, mb, rfl, h3, h4⟩ := Each.split h2
    exact ⟨_ :: ma, mb, rfl, .cons h1 h3, h4⟩
theorem Each.app {α β : Type} {r : α → β → Prop} : ∀ {as bs : List α} {ma mb : List β}, Each r as ma → Each r bs mb → Each r (as ++ bs) (ma ++ mb)
  | _, _, _, _, .nil, h => h
  | _, _, _, _, .cons h1 h2, h => .cons h1 (h2.app h)
theorem Each.fn {α β γ : Type} [DecidableEq γ] [Inhabited β] {r : α → β → Prop} {f : γ → α} : ∀ {l : List γ} {ms : List β}, l.Nodup → Each r (l.map f) ms → ∃ F : γ → β, (∀ c ∈ l, r (f c) (F c)) ∧ ms = l.map F
  | [], _, _, .nil => ⟨fun _ => default, by simp, rfl⟩
  | c :: l, _, hn, .cons (b := b) h1 h2 => by
    obtain ⟨n1, n2⟩ := List.nodup_cons.mp hn
    obtain ⟨F, h3, h4⟩ := Each.fn n2 h2
    refine ⟨fun d => if d = c then b else F d, fun d hd => ?_, ?_⟩
    · by_cases e : d = c
      · subst e; simpa using h1
      · simp only [if_neg e]
        exact h3 d ((List.mem_cons.mp hd).resolve_left e)
    · rw [h4]
      simp only [List.map_cons, if_true, List.cons.injEq, true_and]
      exact List.map_congr_left fun d hd => by rw [if_neg (fun e : d = c => n1 (by rw [← e]; exact hd))]
def LayA (R : List Nat) (t : Nat → Nat → List Sd) (N : Ch) (m : List (Nat × Pl)) : Prop := ∃ ms, (∀ P ∈ pi t (List.range R.length), Lay t N P none (ms P)) ∧ m.Perm ((pi t (List.range R.length)).flatMap ms)
theorem LayA.perm {m' : List (Nat × Pl)} (h : LayA R t N m) (p : m'.Perm m) : LayA R t N m' := by
  obtain ⟨ms, h1, h2⟩ := h
  exact ⟨ms, h1, p.trans h2⟩
theorem LayA.trA (i : ∀ L x g, N L x g → N0 R t L x g) (h : LayA R t N m) : TrA R t N (plF R.length m) := by
  obtain ⟨ms, h1, h2⟩ := h
  exact (lay_all i h1 h2).1
def Stk (R : List Nat) (t : Nat → Nat → List Sd) (N : Ch) (W : List (List Nat × Pl)) (D : List (Nat × Pl)) : Prop := (∀ w ∈ W, okL R.length w.1 ∧ conn t w.1 ∧ w.1 ≠ []) ∧ ∀ ms : List (List (Nat × Pl)), Each (fun w m => Lay t N w.1 w.2 m) W ms → LayA R t N (ms.flatten ++ D)
theorem pi_nd (hL : L.Nodup) : (pi t L).Nodup := flat_nodup' ((pi_perm (t := t)).nodup_iff.mpr hL) fun P hP => pi_pos hP
theorem Stk.init (hs : Sym t) : Stk R t N ((pi t (List.range R.length)).map fun P => (P, none)) [] := by
  refine ⟨fun w hw => ?_, fun ms h => ?_⟩
  · obtain ⟨P, hP, rfl⟩ := List.mem_map.mp hw
    exact ⟨okL_pi okL_range hP, conn_pi hs hP, pi_pos hP⟩
  · obtain ⟨F, h1, h2⟩ := Each.fn (pi_nd List.nodup_range) h
    exact ⟨F, h1, by rw [h2, List.append_nil, List.flatMap_def]⟩
theorem Stk.step (hs : Sym t) {g : List Nat → Nat} (hN : N P x g) (h : Stk R t N (V ++ [(P, pl)]) D) : Stk R t N (V ++ (pi t (les P x)).map fun Q => (Q, some (x, g Q))) ((x, pl) :: D) := by
  obtain ⟨h1, h2⟩ := h
  obtain ⟨k1, k2, k3⟩ := h1 (P, pl) (by simp)
  refine ⟨fun w hw => ?_, fun ms hm => ?_⟩
  · rcases List.mem_append.mp hw with hw | hw
    · exact h1 w (by simp [hw])
    · obtain ⟨Q, hQ, rfl⟩ := List.mem_map.mp hw
      exact ⟨okL_pi (okL_les k1) hQ, conn_pi hs hQ, pi_pos hQ⟩
  · obtain ⟨ma, mb, rfl, e1, e2⟩ := hm.split
    obtain ⟨F, h3, h4⟩ := Each.fn (pi_nd (okL_les k1).nodup) e2
    have := h2 (ma ++ [(x, pl) :: (pi t (les P x)).flatMap F]) (e1.app (.cons (.mk x g F hN h3 (.refl _)) .nil))
    refine this.perm ?_
    subst h4
    simp only [List.flatten_append, List.flatten_cons, List.flatten_nil, List.append_nil, List.append_assoc, List.flatMap_def]
    refine List.Perm.append_left _ ?_
    exact (List.perm_middle).trans (.refl _)
theorem Stk.done (i : ∀ L x g, N L x g → N0 R t L x g) (h : Stk R t N [] D) : TrA R t N (plF R.length D) := by
  have := h.2 [] .nil
  simp only [List.flatten_nil, List.nil_append] at this
  exact this.trA i
theorem Stk.size (h : Stk R t N W D) : ∀ w ∈ W, 1 ≤ w.1.length := fun w hw => List.length_pos_iff.mpr (h.1 w hw).2.2
end
end Lib
set_option maxHeartbeats 4000000
namespace Lib
open PySem PySem.Spec PyProof.Rows L2 DN
variable {Xp : EP}
section
variable {Q : PV → Store → Prop} {st : Store} {F : List Pl} {R : List Nat} {x y n s : Nat} {p f : PV} {t : Nat → Nat → List Sd} {es : List (List Key × PV)} {N : Ch} {W : List (List Nat × Pl)} {D : List (Nat × Pl)}
end
end Lib
namespace Lib
open PySem PySem.Spec PyProof.Rows L2 DN
variable {Xp : EP}
section
variable {Q : PV → Store → Prop} {st : Store} {F : List Pl} {R : List Nat} {x y n s : Nat} {p f : PV} {t : Nat → Nat → List Sd} {es : List (List Key × PV)} {N : Ch} {W : List (List Nat × Pl)} {D : List (Nat × Pl)}
end
end Lib
set_option maxHeartbeats 2000000
namespace DN
open PySem PySem.Spec PyProof.Rows L2
section
variable {Xp : EP}
end
end DN
set_option maxHeartbeats 4000000
namespace Lib
open PySem PySem.Spec PyProof.Rows L2 DN
variable {Xp : EP}
section
variable {Q : PV → Store → Prop} {st : Store} {F G : List Pl} {R : List Nat} {S : List Sy} {x y n s r : Nat} {p f : PV} {t : Nat → Nat → List Sd} {es : List (List Key × PV)} {L P : List Nat} {W : List (List Nat × Pl)} {D : List (Nat × Pl)}
end
end Lib
namespace Lib
open PySem PySem.Spec PyProof.Rows L2 DN
variable {Xp : EP}
section
variable {Q : PV → Store → Prop} {st st' x : Store} {F G : List Pl} {R : List Nat} {S : List Sy} {n s r k : Nat} {p f v : PV} {t : Nat → Nat → List Sd} {L P : List Nat} {es : List (List Key × PV)}
def kL (L : List Nat) : List Key := L.map fun a : Nat => .inl (a : Int)
theorem kL_inj : ∀ {L P : List Nat}, kL L = kL P → L = P
  | [], [], _ => rfl
  | [], _ :: _, h => by simp [kL] at h
  | _ :: _, [], h => by simp [kL] at h
  | a :: L, b :: P, h => by
    simp only [kL, List.map_cons, List.cons.injEq, Sum.inl.injEq] at h
    rw [kL_inj h.2, show a = b by omega]
theorem Gc.of {junk : List SO} (hc : DN.cl v = true) (hl : x.length = st.length) (ho : ∀ (n : Nat) (o o' : SO), st[n]? = some o → x[n]? = some o' → o = o' ∨ clipO st.length st' o' = some o') (e : st' = x ++ junk) (q : Q v x) : Gc st v st' Q := by
  subst e
  exact ⟨v, x, clip_cl hc, gcS_of hl ho, q⟩
end
end Lib
namespace Lib
open PySem PySem.Spec PyProof.Rows L2 DN
variable {Xp : EP}
section
variable {Q : PV → Store → Prop} {st st' x : Store} {F G : List Pl} {R : List Nat} {S : List Sy} {n s r k : Nat} {p f v : PV} {t : Nat → Nat → List Sd} {L P : List Nat} {es : List (List Key × PV)}
def pr (l : List Nat) : Nat := l.foldl (· * ·) 1
noncomputable def wyF (R : List Nat) (t : Nat → Nat → List Sd) : Nat → List Nat → Nat
  | 0, _ => 0
  | k + 1, L => ((L.filter (freeB R t L)).map fun x => pr ((pi t (les L x)).map fun P => (ovr R t x P).length * wyF R t k P)).sum
noncomputable def wy (R : List Nat) (t : Nat → Nat → List Sd) (L : List Nat) : Nat := wyF R t L.length L
def Kn (R : List Nat) (t : Nat → Nat → List Sd) (es : List (List Key × PV)) : Prop := (∀ e ∈ es, ∃ L, okL R.length L ∧ e.1 = kL L ∧ e.2 = .int (wy R t L)) ∧ (es.map (·.1)).Nodup
theorem Kn.nil : Kn R t [] := ⟨by simp, by simp⟩
theorem Kn.at (h : Kn R t es) (e : look es (kL L) = some v) : v = .int (wy R t L) := by
  unfold look at e
  obtain ⟨x, h1, h2⟩ := Option.map_eq_some_iff.mp e
  have hm := List.mem_of_find?_eq_some h1
  have hk := List.find?_some h1
  obtain ⟨L', _, e1, e2⟩ := h.1 x hm
  simp at hk
  rw [e1] at hk
  have := kL_inj hk
  subst this
  rw [← h2, e2]
theorem Kn.cls (h : Kn R t es) : DN.cls (es.map (·.2)) = true := cls_iff.mpr fun p hp => by
  obtain ⟨e, he, rfl⟩ := List.mem_map.mp hp
  obtain ⟨L, _, _, e2⟩ := h.1 e he
  rw [e2]; simp
theorem Kn.put (h : Kn R t es) (hL : okL R.length L) (hn : look es (kL L) = none) : Kn R t (putA es (kL L) (.int (wy R t L))) := by
  have no : ∀ e ∈ es, e.1 ≠ kL L := fun e he c => by
    unfold look at hn
    rw [Option.map_eq_none_iff, List.find?_eq_none] at hn
    exact hn e he (by simpa using c)
  have e1 : putA es (kL L) (.int (wy R t L)) = es ++ [(kL L, .int (wy R t L))] := by
    unfold putA
    rw [if_neg]
    simp only [List.any_eq_true, not_exists, not_and, decide_eq_true_eq]
    exact no
  rw [e1]
  refine ⟨fun e he => ?_, ?_⟩
  · rcases List.mem_append.mp he with he | he
    · exact h.1 e he
    · simp at he; subst he; exact ⟨L, hL, rfl, rfl⟩
  · rw [List.map_append, List.nodup_append]
    refine ⟨h.2, by simp, fun a ha b hb e => ?_⟩
    simp at hb
    subst hb e
    obtain ⟨x, hx, e⟩ := List.mem_map.mp ha
    exact no x hx e
def cod : List Nat → Nat
  | [] => 0
  | a :: L => (1 <<< a) ||| cod L
theorem cod_bit : ∀ {L : List Nat} {y : Nat}, (cod L).testBit y = decide (y ∈ L)
  | [], y => by simp [cod]
  | a :: L, y => by
    rw [cod, Nat.testBit_or, cod_bit (L := L), Nat.testBit_shiftLeft]
    rw [Bool.eq_iff_iff]
    simp
    constructor
    · rintro (⟨h1, h2⟩ | h)
      · have h3 : y - a = 0 := by
          cases hh : y - a with
          | zero => rfl
          | succ i => rw [hh, Nat.testBit_succ] at h2; simp at h2
        left; omega
      · exact .inr h
    · rintro (rfl | h)
      · left; simp
      · exact .inr h
theorem cod_lt (h : okL n L) : cod L < 2 ^ n := Nat.lt_pow_two_of_testBit _ fun y hy => by
  rw [cod_bit]
  exact decide_eq_false fun hm => by have := h.2 y hm; omega
theorem cod_inj (h : okL n L) (h' : okL n P) (e : cod L = cod P) : L = P := asc_ext h.1 h'.1 fun a => by
  have := cod_bit (L := L) (y := a)
  rw [e, cod_bit] at this
  simpa using this.symm
theorem Kn.len (h : Kn R t es) : es.length ≤ 2 ^ R.length := by
  have : ∃ Ls : List (List Nat), es.map (·.1) = Ls.map kL ∧ ∀ L ∈ Ls, okL R.length L := by
    have key : ∀ l : List (List Key × PV), (∀ e ∈ l, ∃ L, okL R.length L ∧ e.1 = kL L) → ∃ Ls : List (List Nat), l.map (·.1) = Ls.map kL ∧ ∀ L ∈ Ls, okL R.length L := by
      intro l
      induction l with
      | nil => exact fun _ => ⟨[], rfl, by simp⟩
      | cons e l ih =>
        intro hl
        obtain ⟨Ls, h1, h2⟩ := ih fun x hx => hl x (by simp [hx])
        obtain ⟨L, h3, h4⟩ := hl e (by simp)
        exact ⟨L :: Ls, by simp [h1, h4], fun x hx => by
          rcases List.mem_cons.mp hx with rfl | hx
          · exact h3
          · exact h2 x hx⟩
    exact key es fun e he => by
      obtain ⟨L, a, b, _⟩ := h.1 e he
      exact ⟨L, a, b⟩
  obtain ⟨Ls, h1, h2⟩ := this
  have hn : (Ls.map cod).Nodup := by
    have hk := h.2
    rw [h1] at hk
    have key : ∀ l : List (List Nat), (l.map kL).Nodup → (∀ L ∈ l, okL R.length L) → (l.map cod).Nodup := by
      intro l
      induction l with
      | nil => exact fun _ _ => .nil
      | cons L l ih =>
        intro hn hl
        simp only [List.map_cons] at hn ⊢
        obtain ⟨n1, n2⟩ := List.nodup_cons.mp hn
        refine List.nodup_cons.mpr ⟨fun hm => ?_, ih n2 fun x hx => hl x (by simp [hx])⟩
        obtain ⟨P, hP, e⟩ := List.mem_map.mp hm
        have := cod_inj (hl P (by simp [hP])) (hl L (by simp)) e
        exact n1 (List.mem_map.mpr ⟨P, hP, by rw [this]⟩)
    exact key Ls hk h2
  have := nodup_bound (2 ^ R.length) (Ls.map cod) hn fun a ha => by
    obtain ⟨L, hL, rfl⟩ := List.mem_map.mp ha
    exact cod_lt (h2 L hL)
  have e := congrArg List.length h1
  simp only [List.length_map] at e this
  omega
def Kd (R : List Nat) (t : Nat → Nat → List Sd) (k : Nat) (st st' : Store) : Prop := st' = st ∨ ∃ es, Kn R t es ∧ st' = st.set k (.dT es)
def KA (R : List Nat) (t : Nat → Nat → List Sd) (k : Nat) (st : Store) : Prop := ∃ es, st[k]? = some (.dT es) ∧ Kn R t es
theorem Kd.refl : Kd R t k st st := .inl rfl
theorem KA.lt (h : KA R t k st) : k < st.length := by
  obtain ⟨es, e, _⟩ := h
  exact (List.getElem?_eq_some_iff.mp e).1
theorem Kd.len (h : Kd R t k st st') : st'.length = st.length := by
  rcases h with rfl | ⟨es, _, rfl⟩ <;> simp
theorem Kd.trans (h : Kd R t k st st') (h' : Kd R t k st' x) : Kd R t k st x := by
  rcases h' with rfl | ⟨es, k1, rfl⟩
  · exact h
  · rcases h with rfl | ⟨es', k2, rfl⟩
    · exact .inr ⟨es, k1, rfl⟩
    · exact .inr ⟨es, k1, by simp⟩
theorem Kd.app {junk : List SO} (hk : k < st.length) (h : Kd R t k (st ++ junk) st') : ∃ y, st' = y ++ junk ∧ Kd R t k st y := by
  rcases h with rfl | ⟨es, k1, rfl⟩
  · exact ⟨st, rfl, .refl⟩
  · exact ⟨st.set k (.dT es), by rw [List.set_append_left _ _ hk], .inr ⟨es, k1, rfl⟩⟩
theorem KA.app {junk : List SO} (h : KA R t k st) : KA R t k (st ++ junk) := by
  obtain ⟨es, e, k1⟩ := h
  exact ⟨es, by rw [List.getElem?_append_left (List.getElem?_eq_some_iff.mp e).1]; exact e, k1⟩
end
end Lib
namespace Lib
open PySem PySem.Spec PyProof.Rows L2 DN
section
variable {L : List Nat} {R : List Nat} {S : List Sy} {k : Nat} {t : Nat → Nat → List Sd} {es : List (List Key × PV)}
end
end Lib
set_option maxHeartbeats 2000000
namespace Lib
open PySem PySem.Spec PyProof.Rows L2 DN
section
variable {F G : List Pl} {R : List Nat} {S : List Sy} {x y z n k : Nat} {t : Nat → Nat → List Sd} {L P : List Nat} {pl : Pl} {m D : List (Nat × Pl)}
abbrev RowP := List (Nat × Pl)
def laid (A B : List RowP) : List RowP := A.flatMap fun r => B.map (r ++ ·)
noncomputable def waF (R : List Nat) (t : Nat → Nat → List Sd) : Nat → List Nat → Pl → List RowP
  | 0, _, _ => []
  | k + 1, L, pl => (L.filter (freeB R t L)).flatMap fun x => (pi t (les L x)).foldl (fun A P => laid A ((ovr R t x P).flatMap fun r => waF R t k P (some (x, r)))) [[(x, pl)]]
noncomputable def wa (R : List Nat) (t : Nat → Nat → List Sd) (L : List Nat) (pl : Pl) : List RowP := waF R t L.length L pl
noncomputable def wb (R : List Nat) (t : Nat → Nat → List Sd) (x : Nat) (P : List Nat) : List RowP := (ovr R t x P).flatMap fun r => wa R t P (some (x, r))
def prodR (A : List RowP) (B : List Nat → List RowP) (Ps : List (List Nat)) : List RowP := Ps.foldl (fun A P => laid A (B P)) A
theorem laid_len {A B : List RowP} : (laid A B).length = A.length * B.length := by
  unfold laid
  induction A with
  | nil => simp
  | cons a A ih => rw [List.flatMap_cons, List.length_append, ih, List.length_map, List.length_cons, Nat.add_mul, Nat.one_mul, Nat.add_comm]
end
end Lib
namespace Lib
open PySem PySem.Spec PyProof.Rows L2 DN
section
variable {F G : List Pl} {R : List Nat} {S : List Sy} {x y z n k : Nat} {t : Nat → Nat → List Sd} {L P : List Nat} {pl : Pl} {m D : List (Nat × Pl)}
def tpB (F : List Pl) (L : List Nat) (x : Nat) : Bool := match up F x with | none => true | some q => !decide (q.1 ∈ L)
def tp (F : List Pl) (L : List Nat) : Nat := (L.find? (tpB F L)).getD 0
def tr (F : List Pl) (L : List Nat) : Nat := match up F (tp F L) with | none => 0 | some q => q.2
def Out (L : List Nat) (pl : Pl) : Prop := ∀ q, pl = some q → q.1 ∉ L
end
end Lib
set_option maxHeartbeats 4000000
namespace Lib
open PySem PySem.Spec PyProof.Rows L2 DN
variable {Xp : EP}
section
variable {Q : PV → Store → Prop} {QI : Src → Store → Prop} {st st' x : Store} {F G : List Pl} {R : List Nat} {S : List Sy} {n s r k : Nat} {p f v : PV} {t : Nat → Nat → List Sd} {L P : List Nat} {es : List (List Key × PV)} {σ : AE} {pl : Pl}
@[simp] theorem wp_iZipTL {f g : DE} : (wpX Xp) (iZipTL (dAc f (dAc g dA0)) σ st) QI = (wpX Xp) (f σ st) fun p st => (wpX Xp) (g σ st) fun q st => (wpX Xp) (srcTL p q st) QI := by
  simp [iZipTL]
theorem KA.new : KA R t st.length (st ++ [.dT []]) := ⟨[], by simp, Kn.nil⟩
theorem Kd.new (h : Kd R t st.length (st ++ [.dT []]) st') : ∃ es, st' = st ++ [.dT es] := by
  rcases h with rfl | ⟨es, _, rfl⟩
  · exact ⟨_, rfl⟩
  · exact ⟨es, by simp⟩
end
end Lib
namespace Lib
open PySem PySem.Spec PyProof.Rows L2 DN
variable {Xp : EP}
section
variable {Q : PV → Store → Prop} {QI : Src → Store → Prop} {st st' : Store} {F G : List Pl} {R : List Nat} {S : List Sy} {n s r k x : Nat} {p f v : PV} {t : Nat → Nat → List Sd} {L P : List Nat} {es : List (List Key × PV)} {σ : AE} {pl : Pl} {m : RowP}
def ep (e : Nat × Pl) : PV := .tup [.int e.1, Lib.pv e.2]
end
end Lib
namespace Lib
open PySem PySem.Spec PyProof.Rows L2 DN
variable {Xp : EP}
section
variable {Q : PV → Store → Prop} {QI : Src → Store → Prop} {st st' : Store} {F G : List Pl} {R : List Nat} {S : List Sy} {n s r k x : Nat} {p f v : PV} {t : Nat → Nat → List Sd} {L P : List Nat} {es : List (List Key × PV)} {σ : AE} {pl : Pl} {m : RowP}
def LR (st : Store) (p : PV) (l : List PV) : Prop := p = .lst l ∨ ∃ n, p = .ref n ∧ st[n]? = some (.lst l)
theorem LR.app {junk : List SO} {l : List PV} (h : LR st p l) : LR (st ++ junk) p l := by
  rcases h with h | ⟨n, h, e⟩
  · exact .inl h
  · exact .inr ⟨n, h, by rw [List.getElem?_append_left (List.getElem?_eq_some_iff.mp e).1]; exact e⟩
noncomputable def wt (R : List Nat) (t : Nat → Nat → List Sd) (L : List Nat) : List (Nat × RowP) := (L.filter (freeB R t L)).flatMap fun x => (prodR [[]] (wb R t x) (pi t (les L x))).map fun r => (x, r)
end
end Lib
namespace Lib
open PySem PySem.Spec PyProof.Rows L2 DN
variable {Xp : EP}
section
variable {Q : PV → Store → Prop} {QI : Src → Store → Prop} {st st' : Store} {F G : List Pl} {R : List Nat} {S : List Sy} {n s r k x : Nat} {p f v : PV} {t : Nat → Nat → List Sd} {L P : List Nat} {es : List (List Key × PV)} {σ : AE} {pl : Pl} {m : RowP}
end
end Lib
namespace Lib
open PySem PySem.Spec PyProof.Rows L2 DN
variable {Xp : EP}
section
variable {Q : PV → Store → Prop} {st : Store} {R : List Nat} {S : List Sy} {x y n s i j k : Nat} {p f : PV} {F G : List Pl} {t : Nat → Nat → List Sd} {es : List (List Key × PV)} {FF : List (List Pl)} {σ : AE}
open Classical in
theorem wp_lcRF {α : Type} {g : α → PV} {t : DT} {c : DB} {e : DE} {l0 : List PV} {QL : List PV → Store → Prop} (hk : st[n]? = some (.lst l0)) (keep : α → Bool) (v : α → PV) (l : List α)
    (hs : ∀ p ∈ l, wpX EF (t (g p) σ st) fun σ1 st1 => wpX EF (c σ1 st1) fun b st2 => st2 = st ∧ b = keep p ∧ (b = true → wpX EF (e σ1 st2) fun u st3 => u = v p ∧ st3 = st)) (hf : QL ((l.filter keep).map v) st) : (wpX Xp) (lcI t c e (fun st => decide (st[n]? = some (.lst l0))) σ (l.map g) st) QL := by
  refine wp_lcRM (fun r acc st' => st' = st ∧ acc ++ (r.filter keep).map v = (l.filter keep).map v ∧ ∀ p ∈ r, p ∈ l) l st (fun r a st' h => by rw [h.1]; exact hk) ?_ ?_ ⟨rfl, by simp, fun p h => h⟩
  · rintro I hI p r acc st' ⟨rfl, h1, h2⟩
    refine wp_mono (hs p (h2 p List.mem_cons_self)) fun σ1 st1 h => wp_mono h fun b st2 ⟨e1, e2, h⟩ => ?_
    subst e1
    cases b with
    | true =>
      simp only [cnd_true]
      refine wp_mono (h rfl) fun u st3 ⟨e3, e4⟩ => ?_
      subst e3 e4
      refine hI _ _ _ ⟨rfl, ?_, fun q hq => h2 q (List.mem_cons_of_mem _ hq)⟩
      rw [← h1, List.filter_cons, ← e2, if_pos rfl]
      simp
    | false =>
      simp only [cnd_false]
      refine hI _ _ _ ⟨rfl, ?_, fun q hq => h2 q (List.mem_cons_of_mem _ hq)⟩
      rw [← h1, List.filter_cons, ← e2]
      simp
  · rintro acc st' ⟨rfl, h1, _⟩
    simp only [List.filter_nil, List.map_nil, List.append_nil] at h1
    rw [h1]
    exact hf
end
end Lib
namespace K86
open PySem PySem.Spec PyProof.Rows L2 DN Lib
variable {Xp : EP}
section
variable {Q : PV → Store → Prop} {st : Store} {F G T : List Pl} {R M A B L : List Nat} {x y n s : Nat} {p v w : PV} {i j : Int}
theorem ne_same {X : EP} {QQ : PV → Store → Prop} {st : Store} (h : dpv 64 v = true) : wpX X (pNe v v st) QQ = QQ (.bl false) st := by
  rw [wp_neD h h]
  simp
theorem qL_i (h : i.natAbs ≤ 1000) {m : Nat} : qL m (.int i) = true := by
  cases m <;> (simp only [qL, decide_eq_true_eq]; exact Nat.lt_of_le_of_lt h (by decide))
theorem qL_pv {p : Pl} (h : ∀ q, p = some q → q.1 ≤ 100 ∧ q.2 ≤ 100) {m : Nat} : qL (m + 1) (Lib.pv p) = true := by
  cases p with
  | none => rfl
  | some q =>
    obtain ⟨h1, h2⟩ := h q rfl
    simp only [Lib.pv, pp, qL, List.all_cons, List.all_nil, Bool.and_true, Bool.and_eq_true]
    exact ⟨by simpa only [qL] using qL_i (i := (q.1 : Int)) (m := m) (by omega), by simpa only [qL] using qL_i (i := (q.2 : Int)) (m := m) (by omega)⟩
theorem szL_pv {p : Pl} {m : Nat} : DN.szL (m + 2) (Lib.pv p) ≤ 3 := by
  cases p with
  | none => simp [Lib.pv, DN.szL]
  | some q => simp [Lib.pv, pp, DN.szL]
theorem up_sm (hR : okR R) (hT : okF R T) : ∀ q, up T x = some q → q.1 ≤ 100 ∧ q.2 ≤ 100 := fun q e => by
  by_cases h : x < T.length
  · have h24 := hR.1
    have h1 := hT.2 x h q e
    have := rm_le (x := q.1) hR
    omega
  · rw [up_getD, List.getD_eq_getElem?_getD, List.getElem?_eq_none (by omega)] at e
    cases e
theorem rp_rws (hR : okR R) (hT : okF R T) (hL : ∀ x ∈ L, x < T.length) (hl : L.length ≤ 24) {X : EP} {QQ : PV → Store → Prop} {st : Store} : wpX X (qRepr [.tup (rws T L)] st) QQ = QQ (.str (rp (.tup (rws T L)))) st := by
  have h24 := hR.1
  have hTl := hT.1
  refine wp_rpL (n := 20) ?_ (by decide) ?_
  · simp only [rws, qL, List.all_eq_true, List.mem_map]
    rintro p ⟨x, hx, rfl⟩
    have h1 : qL 18 (Lib.pv (up T x)) = true := qL_pv (m := 17) (up_sm hR hT)
    have := hL x hx
    simp only [pm, qL, List.all_cons, List.all_nil, Bool.and_true, Bool.and_eq_true]
    exact ⟨by simpa only [qL] using qL_i (i := (x : Int)) (m := 18) (by omega), h1⟩
  · simp only [rws, DN.szL, List.map_map]
    have := sum_le (g := DN.szL 19 ∘ fun x => pm (x, up T x)) (b := 5) (l := L) fun x _ => by
      have h : DN.szL 18 (Lib.pv (up T x)) ≤ 3 := szL_pv (m := 16)
      simp only [Function.comp, pm, DN.szL, List.map_cons, List.map_nil, List.sum_cons, List.sum_nil]
      omega
    omega
theorem cut6 {a : Str} : cutS ("0 base" ++ a) (some 6) none = a := by
  apply str_list
  unfold cutS
  have e : ("0 base" ++ a).cps.toList = ("0 base" : Str).cps.toList ++ a.cps.toList := app_list
  have e6 : ("0 base" : Str).cps.toList.length = 6 := by decide
  have hlen : ("0 base" ++ a).length = 6 + a.cps.toList.length := by
    show ("0 base" ++ a).cps.size = _
    rw [← Array.length_toList, e, List.length_append, e6]
  rw [show (some 6 : Option Int) = some ((6 : Nat) : Int) from rfl, HT.sIx_none, HT.sIx_nat, hlen, e]
  rw [show min 6 (6 + a.cps.toList.length) = 6 by omega, List.drop_left' e6]
  simp
  exact List.take_of_length_le (by rw [Array.length_toList]; exact Nat.le_refl _)
end
end K86
namespace K86
open PySem PySem.Spec PyProof.Rows L2 DN Lib
variable {Xp : EP}
section
variable {Q : PV → Store → Prop} {st : Store} {F G T : List Pl} {R M A B L : List Nat} {x y n s : Nat} {p v w : PV} {i j : Int}
theorem laid_mem (h : x ∈ laid F T) : x < T.length := (mem_dif.mp (laid_perm.mem_iff.mp h)).1
theorem hg_len : ∀ L : List Nat, (L.flatMap (hg T)).length = L.length * 2
  | [] => rfl
  | a :: L => by rw [List.flatMap_cons, List.length_append, hg_len L, show (hg T a).length = 2 from rfl, List.length_cons]; omega
theorem dab_rws {L : List Nat} : (rws T L).all (dab 20) = true := by
  simp only [rws, List.all_eq_true, List.mem_map]
  rintro p ⟨x, _, rfl⟩
  have h : dab 19 (Lib.pv (up T x)) = true := by cases up T x <;> simp [Lib.pv, pp, dab]
  simp only [pm, dab, List.all_cons, List.all_nil, Bool.and_true, Bool.and_eq_true]
  exact ⟨trivial, h⟩
theorem szR_hg (hR : okR R) (hT : okF R T) : ((hg T x).map fun r => DN.szL 19 (rwv r)).sum ≤ 26 := by
  have h : DN.szL 18 (Lib.pv (up T x)) ≤ 3 := szL_pv (m := 16)
  simp only [hg, rwv, List.map_cons, List.map_nil, List.sum_cons, List.sum_nil, DN.szL]
  omega
theorem sz_flat (hR : okR R) (hT : okF R T) : ∀ L : List Nat, ((L.flatMap (hg T)).map fun r => DN.szL 19 (rwv r)).sum ≤ L.length * 26
  | [] => by simp
  | a :: L => by
    have h1 := sz_flat hR hT L
    have h2 := szR_hg (x := a) hR hT
    rw [List.flatMap_cons, List.map_append, List.sum_append, List.length_cons]
    omega
theorem qL_str {t : Str} (h : PyData.strOk t = true) (h2 : t.length ≤ 1500) {m : Nat} : qL m (.str t) = true := by
  have : t.cps.size ≤ 1500 := h2
  cases m <;> simp only [qL, Bool.and_eq_true, decide_eq_true_eq] <;> exact ⟨h, this⟩
theorem rp_code (hR : okR R) (hT : okF R T) (hL : ∀ x ∈ L, x < T.length) (hl : L.length ≤ 24) (h1 : PyData.strOk (lt i T) = true ∧ (lt i T).length ≤ 1500) (h2 : PyData.strOk (sh (i + 1)) = true ∧ (sh (i + 1)).length ≤ 1500) {X : EP} {QQ : PV → Store → Prop} {st : Store} : wpX X (qRepr [.tup ((codeR i T L).map rwv)] st) QQ = QQ (.str (rp (.tup ((codeR i T L).map rwv)))) st := by
  have h24 := hR.1
  have hTl := hT.1
  have qw : ∀ t, PyData.strOk t = true ∧ t.length ≤ 1500 → qL 19 (rwv (.wr t)) = true := fun t h => by
    have a1 : qL 18 (.str ("write" : Str)) = true := by simp only [qL]; decide +kernel
    simp only [rwv, qL, List.all_cons, List.all_nil, Bool.and_true, Bool.and_eq_true]
    exact ⟨by simpa only [qL, Bool.and_eq_true] using a1, by simpa only [qL, Bool.and_eq_true] using qL_str (m := 18) h.1 h.2⟩
  refine wp_rpL (n := 20) ?_ (by decide) ?_
  · simp only [qL, List.all_eq_true, List.mem_map]
    rintro p ⟨r, hr, rfl⟩
    unfold codeR at hr
    split at hr
    · cases hr
    · rcases List.mem_cons.mp hr with rfl | hr
      · exact qw _ h1
      · rcases List.mem_append.mp hr with hr | hr
        · obtain ⟨x, hx, hr⟩ := List.mem_flatMap.mp hr
          have hxT := hL x hx
          have hp : qL 18 (Lib.pv (up T x)) = true := qL_pv (m := 17) (up_sm hR hT)
          simp only [hg, List.mem_cons, List.not_mem_nil, or_false] at hr
          rcases hr with rfl | rfl
          · have a1 : qL 18 (.str ("lift" : Str)) = true := by simp only [qL]; decide +kernel
            simp only [rwv, qL, List.all_cons, List.all_nil, Bool.and_true, Bool.and_eq_true]
            exact ⟨by simpa only [qL, Bool.and_eq_true] using a1, by simpa only [qL] using qL_i (i := (x : Int)) (m := 18) (by omega)⟩
          · have a1 : qL 18 (.str ("lower" : Str)) = true := by simp only [qL]; decide +kernel
            simp only [rwv, qL, List.all_cons, List.all_nil, Bool.and_true, Bool.and_eq_true]
            exact ⟨by simpa only [qL, Bool.and_eq_true] using a1, hp⟩
        · simp at hr
          subst hr
          exact qw _ h2
  · have hs := sz_flat hR hT L
    simp only [DN.szL, List.map_map]
    unfold codeR
    split
    · simp
    · rw [List.map_cons, List.map_append, List.sum_cons, List.sum_append]
      have e : ∀ t, (DN.szL 19 ∘ rwv) (.wr t) = 21 := fun t => rfl
      simp only [List.map_cons, List.map_nil, List.sum_cons, List.sum_nil, e]
      have : ((L.flatMap (hg T)).map (DN.szL 19 ∘ rwv)).sum ≤ L.length * 26 := hs
      omega
theorem lt_ok : PyData.strOk (lt i T) = true := ok_app (ok_app (ok_app nt_ok (by decide +kernel)) fw_ok) (by decide +kernel)
theorem sh_ok : PyData.strOk (sh i) = true := ok_app nt_ok (by decide +kernel)
theorem bt_ok : PyData.strOk (bt T) = true := ok_app (ok_app (by decide +kernel) fw_ok) (by decide +kernel)
theorem qL_fv {F : List Pl} {R : List Nat} (hF : okF R F) (hR : okR R) {m : Nat} : qL (m + 2) (fv F) = true := by
  simp only [fv, qL, List.all_eq_true, List.mem_map]
  rintro p ⟨q, hq, rfl⟩
  obtain ⟨x, hx, e⟩ := List.mem_iff_getElem.mp hq
  cases q with
  | none => simp [Lib.pv, qL]
  | some q =>
    have h1 := hF.2 x hx q (by simp [up, hx, e])
    have h2 := rm_le (x := q.1) hR
    have h3 := hR.1
    simp only [Lib.pv, pp, qL, List.all_cons, List.all_nil, Bool.and_true, Bool.and_eq_true]
    exact ⟨by simpa only [qL] using qL_i (i := (q.1 : Int)) (m := m) (by omega), by simpa only [qL] using qL_i (i := (q.2 : Int)) (m := m) (by omega)⟩
theorem szL_fv {F : List Pl} {m : Nat} : DN.szL (m + 2) (fv F) ≤ 1 + 3 * F.length := by
  simp only [fv, DN.szL, List.map_map]
  have := sum_le (g := DN.szL (m + 1) ∘ Lib.pv) (b := 3) (l := F) fun q _ => by
    cases q <;> simp [Lib.pv, pp, DN.szL]
  omega
theorem rp_yv {R : List Nat} {Y : Yd} {X : EP} {QQ : PV → Store → Prop} {st : Store} (hR : okR R) (hY : okY R Y) (hJ : Y.J.length ≤ 1500) : wpX X (qRepr [yv Y] st) QQ = QQ (.str (rp (yv Y))) st := by
  have h24 := hR.1
  have hFl : Y.F.length = R.length := hY.hF.1
  have a1 : qL 18 (fv Y.F) = true := qL_fv (m := 16) hY.hF hR
  have a2 : qL 18 (ov Y.h) = true := by
    cases e : Y.h with
    | none => rfl
    | some a => have := (hY.hk a e).1; exact qL_i (by omega)
  have a3 : qL 18 (.str Y.J) = true := by
    have : Y.J.cps.size ≤ 1500 := hJ
    simp only [qL, Bool.and_eq_true, decide_eq_true_eq]
    exact ⟨hY.sk, this⟩
  have b1 : DN.szL 18 (fv Y.F) ≤ 1 + 3 * Y.F.length := szL_fv (m := 16)
  have b2 : DN.szL 18 (ov Y.h) = 1 := by cases Y.h <;> rfl
  refine wp_rpL (n := 19) ?_ (by decide) ?_
  · simp only [yv, qL, List.all_cons, List.all_nil, Bool.and_true, Bool.and_eq_true] at *
    exact ⟨a1, a2, a3⟩
  · simp only [yv, DN.szL, List.map_cons, List.map_nil, List.sum_cons, List.sum_nil, b2]
    omega
theorem pos_ne {t : Str} (h : 0 < t.length) : t ≠ Str.empty := fun e => by
  rw [e, emp_len] at h
  omega
theorem code_ok (hR : okR R) (hT : okF R T) (hL : ∀ x ∈ L, x < T.length) (h1 : (lt i T).length ≤ 1500) (h2 : (sh (i + 1)).length ≤ 1500) : ∀ r ∈ codeR i T L, okRw R r ∧ txR r := fun r hr => by
  have hTl := hT.1
  unfold codeR at hr
  split at hr
  · cases hr
  · have w1 : okRw R (.wr (lt i T)) ∧ txR (.wr (lt i T)) := ⟨pos_ne (by
      have e2 : ("\n" : Str).length = 1 := by decide
      rw [lt, app_len, e2]
      omega), fun s e => by cases e; exact ⟨lt_ok, by omega⟩⟩
    have w2 : okRw R (.wr (sh (i + 1))) ∧ txR (.wr (sh (i + 1))) := ⟨pos_ne (by
      have e2 : (" shut\n" : Str).length = 6 := by decide
      rw [sh, app_len, e2]
      omega), fun s e => by cases e; exact ⟨sh_ok, by omega⟩⟩
    rcases List.mem_cons.mp hr with rfl | hr
    · exact w1
    · rcases List.mem_append.mp hr with hr | hr
      · obtain ⟨x, hx, hr⟩ := List.mem_flatMap.mp hr
        have hxT := hL x hx
        simp only [hg, List.mem_cons, List.not_mem_nil, or_false] at hr
        rcases hr with rfl | rfl
        · exact ⟨show x < R.length by omega, fun s e => by cases e⟩
        · exact ⟨fun q e => by have := hT.2 x hxT q e; exact ⟨this.1, this.2.2⟩, fun s e => by cases e⟩
      · simp at hr
        subst hr
        exact w2
theorem filt : (codeR i T L).filter isWr = if L = [] then [] else [.wr (lt i T), .wr (sh (i + 1))] := by
  unfold codeR
  split
  · rfl
  · have : (L.flatMap (hg T)).filter isWr = [] := List.filter_eq_nil_iff.mpr fun r hr => by
      obtain ⟨x, _, hr⟩ := List.mem_flatMap.mp hr
      simp only [hg, List.mem_cons, List.not_mem_nil, or_false] at hr
      rcases hr with rfl | rfl <;> simp [isWr]
    rw [List.filter_cons_of_pos rfl, List.filter_append, this]
    rfl
theorem app_emp {J : Str} : J ++ Str.empty = J := by
  show (⟨J.cps ++ #[]⟩ : Str) = J
  rw [Array.append_empty]
theorem run_code_all (hR : okR R) (hF : okF R F) (oF : Fo F) (hT : okF R T) (oT : Fo T) : runY ⟨F, none, bt F⟩ (codeR i T (laid F T)) = .ok ⟨T, none, bt F ++ Txt.join "" (((codeR i T (laid F T)).filter isWr).map wtx)⟩ := by
  have hlT : F.length = T.length := by rw [hF.1, hT.1]
  have hrun := run_laid (J := bt F ++ lt i T) hR hF oF hT oT (laid F T) [] rfl
  have hall := pl_all hlT
  rw [filt]
  have e0 : ("" : Str) = Str.empty := by decide
  by_cases c : laid F T = []
  · rw [c] at hall ⊢
    have : F = T := hall
    simp only [codeR, if_true, runY]
    rw [txt_join]
    show _ = (Except.ok (⟨T, none, bt F ++ Str.empty⟩ : Yd) : Except (Str × Nat) Yd)
    rw [app_emp, this]
  · rw [if_neg c, codeR, if_neg c]
    simp only [runY, stY]
    rw [runY_app]
    rw [show pl T F [] = F from rfl] at hrun
    rw [hrun]
    simp only [runY, stY]
    rw [txt_join]
    show _ = (Except.ok (⟨T, none, bt F ++ (lt i T ++ ("" : Str) ++ sh (i + 1))⟩ : Yd) : Except (Str × Nat) Yd)
    rw [e0, app_emp, app_assoc]
theorem out_gc {X : EP} {QQ : PV → Store → Prop} {e : Except (Str × Nat) Yd} (h : outS X QQ st e) : outS (gx st X) (fun v st' => Gc st v st' QQ) st e := by
  cases e with
  | ok Y => exact Gc.same cl_yv h
  | error e => exact Gc.same (by simp) h
theorem run_sp {Y : Yd} {gs : List Rw} {X : EP} {QQ : PV → Store → Prop} (hR : okR R) (hY : okY R Y) (hr : ∀ r ∈ gs, okRw R r ∧ txR r) (hJ : Y.J.length + (gs.map wln).sum ≤ 1000000) (h : outS X QQ st (runY Y gs)) : wpX X (run_code [rv R, yv Y, .tup (gs.map rwv)] st) QQ := by
  refine wp_fn ?_
  simp
  refine made_yard_ok hR hY ?_
  skip
  refine made_code_ok hR hr ?_
  exact all_stepped_sp hY hR.1 hr hJ (out_gc h)
theorem both_right_law (hs : SrcAt st s) (hR : okR R) (hF : okF R F) (oF : Fo F) (hT : okF R T) (oT : Fo T) (h1 : 1 ≤ i) (h2 : i < 10 ^ 17) (q : ∀ st', Dr s st st' → Q (.bl true) st') : (wpX Xp) (d__law_both_right [.ref s, rv R, fv F, fv T, .int i] st) Q := by
  have h24 := hR.1
  have hlt := hs.lt
  have hTl := hT.1
  have hlT : F.length = T.length := by rw [hF.1, hT.1]
  have hll := laid_len (F := F) (T := T) (by omega)
  have hni := nt_len (i := i) (by omega)
  have hnj := nt_len (i := i + 1) (by omega)
  have hfw := fw_len hR hT
  have hfF := fw_len hR hF
  refine wp_fn ?_
  refine wps_seqK fun K hK => ?_
  simp
  refine laid_law hlT oT (by omega) ?_
  refine hK _ _ ?_
  clear hK K
  refine wps_seqK fun K hK => ?_
  refine wps_skip ?_ (hK _ _ ?_)
  · simp
    refine lay_sp hR hF oF hT oT ?_
    rw [rp_rws hR hT (fun x h => laid_mem h) hll]
    rw [rp_rws hR hT (fun x h => laid_mem h) hll]
    simp
    refine done_law (B := []) hR hF oF hT oT (by simp) ?_
    rw [pl_all hlT, ne_same (dpv_fv (m := 62))]
    simp
  clear hK K
  have hrun := run_laid (J := bt F ++ lt i T) hR hF oF hT oT (laid F T) [] rfl
  have hall := pl_all hlT
  have hsp : ∀ k, ∃ A B, A = (laid F T).take k ∧ laid F T = A ++ B := fun k => ⟨_, _, rfl, (List.take_append_drop k _).symm⟩
  have hmem : ∀ x ∈ laid F T, x < T.length := fun x h => laid_mem h
  obtain ⟨k, hk⟩ : ∃ k, k = st.length := ⟨_, rfl⟩
  have g0 : ∀ {x : Store} {A : List PV}, Dr s st x → (x ++ [SO.lst A])[k]? = some (.lst A) := fun {x A} h => by rw [hk, ← h.len]; simp
  have s0 : ∀ {x : Store} {A B : List PV}, Dr s st x → (x ++ [SO.lst A]).set k (.lst B) = x ++ [.lst B] := fun {x A B} h => by rw [hk, ← h.len]; simp
  obtain ⟨C, hC⟩ : ∃ C, C = codeR i T (laid F T) := ⟨_, rfl⟩
  refine wps_seqK fun K hK => ?_
  -- the code, whole
  have lays : ∀ D : List Nat, D.length ≤ 24 → ((D.flatMap (hg T)).map rwv).length ≤ 48 := fun D h => by rw [List.length_map, hg_len]; omega
  suffices go : ∀ H : List Rw, (H = if laid F T = [] then [] else [.wr (lt i T)]) → K [some (.ref s), some (rv R), some (fv F), some (fv T), some (.int i), some (.lst (rws T (laid F T))), some (.ref k), none, none, none, none, none, none] (st ++ [.lst (H.map rwv)]) by
    simp
    rw [wp_neNil dab_rws]
    by_cases c : laid F T = []
    · rw [c]
      simp [rws]
      rw [← hk]
      simpa [c, rws] using go [] (by simp [c])
    · have c' : (rws T (laid F T)).isEmpty = false := by simpa [rws] using c
      simp [c']
      rw [wp_str (by omega)]
      simp
      have e1 : (" lay" : Str).length = 4 := by decide
      have e2 : ("\n" : Str).length = 1 := by decide
      have e3 : ("0 base" : Str).length = 6 := by decide
      refine ⟨by rw [e1]; omega, ?_⟩
      refine base_sp hR hT ?_
      rw [show bt T = "0 base" ++ (fw T ++ "\n") from app_assoc]
      simp [app_len, e1, e2, e3, cut6]
      refine ⟨by omega, by omega, ?_⟩
      rw [← hk, show nt i ++ " lay" ++ (fw T ++ "\n") = lt i T from app_assoc.symm]
      simpa [rwv] using go [.wr (lt i T)] (by simp [c])
  intro H hH
  refine hK _ _ ?_
  clear hK K
  refine wps_seqK fun K hK => ?_
  simp
  have hHl : H.length ≤ 1 := by rw [hH]; split <;> simp
  refine wps_forM (g := fun x => pm (x, up T x)) (fun r σ st' => ∃ D, D ++ r = laid F T ∧ σ = [some (.ref s), some (rv R), some (fv F), some (fv T), some (.int i), some (.lst (rws T (laid F T))), some (.ref k), none, none, none, none, none, none] ∧ st' = st ++ [.lst ((H ++ D.flatMap (hg T)).map rwv)]) (laid F T) ?_ ?_ ⟨[], rfl, rfl, by simp⟩
  · rintro I hI x r σ st' ⟨D, hD, rfl, rfl⟩
    have hDl : D.length ≤ 24 := by rw [← hD] at hll; simp at hll; omega
    have hfl := hg_len (T := T) D
    simp [pm]
    refine ⟨isL_ref (g0 .refl), ?_⟩
    rw [← List.map_append]
    refine wp_extend (l := (H ++ D.flatMap (hg T)).map rwv) (m := (hg T x).map rwv) (g0 .refl) rfl (by rw [List.length_map, List.length_map, List.length_append, hfl, show (hg T x).length = 2 from rfl]; simp only [SZ_lit]; omega) ?_
    rw [s0 .refl]
    simp [wipeA]
    refine hI _ _ _ ⟨D ++ [x], by rw [← hD]; simp, rfl, ?_⟩
    simp
  rintro σ st' ⟨D, hD, rfl, rfl⟩
  simp at hD
  subst hD
  simp [wipeA]
  refine hK _ _ ?_
  clear hK K
  have hfl := hg_len (T := T) (laid F T)
  refine wps_seqK fun K hK => ?_
  suffices go : K [some (.ref s), some (rv R), some (fv F), some (fv T), some (.int i), some (.lst (rws T (laid F T))), some (.ref k), none, none, none, none, none, none] (st ++ [.lst (C.map rwv)]) by
    rw [wps_if]
    simp
    rw [wp_neNil dab_rws]
    by_cases c : laid F T = []
    · rw [hC] at go
      simp [c, rws, codeR] at go hH ⊢
      subst hH
      simpa using go
    · have c' : (rws T (laid F T)).isEmpty = false := by simpa [rws] using c
      simp [c']
      refine ⟨isL_ref (g0 .refl), ?_⟩
      have e1 : (" shut\n" : Str).length = 6 := by decide
      rw [wp_str (by omega)]
      simp
      refine ⟨by rw [e1]; omega, ?_⟩
      rw [← List.map_append]
      refine wp_append (l := (H ++ (laid F T).flatMap (hg T)).map rwv) (g0 .refl) (by rw [List.length_map, List.length_append, hfl]; simp only [SZ_lit]; omega) ?_
      rw [s0 .refl]
      have e : (H ++ (laid F T).flatMap (hg T)).map rwv ++ [PV.tup [.str (Str.ofString "write"), .str (nt (i + 1) ++ Str.ofString " shut\n")]] = C.map rwv := by
        rw [hC, hH, codeR, if_neg c, if_neg c]
        simp [rwv]
        rfl
      rw [e]
      exact go
  refine hK _ _ ?_
  clear hK K
  have hsh : (sh (i + 1)).length ≤ 60 := by
    have e1 : (" shut\n" : Str).length = 6 := by decide
    rw [sh, app_len, e1]
    omega
  have hlt' : (lt i T).length ≤ 300 := by
    have e1 : (" lay" : Str).length = 4 := by decide
    have e2 : ("\n" : Str).length = 1 := by decide
    rw [lt, app_len, app_len, app_len, e1, e2]
    omega
  have hbt : (bt F).length ≤ 260 := by
    have e1 : ("0 base" : Str).length = 6 := by decide
    have e2 : ("\n" : Str).length = 1 := by decide
    rw [bt, app_len, app_len, e1, e2]
    omega
  refine wps_seqK fun K hK => ?_
  refine wps_skip ?_ (hK _ _ ?_)
  · simp
    refine lay_code_sp hR hF oF hT oT h1 (by omega) ?_
    have rpc : ∀ {X : EP} {QQ : PV → Store → Prop} {st : Store}, wpX X (qRepr [.tup (C.map rwv)] st) QQ = QQ (.str (rp (.tup (C.map rwv)))) st := fun {X QQ st} => by
      rw [hC]
      exact rp_code hR hT hmem hll ⟨lt_ok, by omega⟩ ⟨sh_ok, by omega⟩
    rw [← hC, rpc, wp_tupR (g0 .refl), rpc]
    simp
  clear hK K
  refine wps_seqK fun K hK => ?_
  simp
  refine base_sp hR hF ?_
  refine hK _ _ ?_
  clear hK K
  refine wps_seqK fun K hK => ?_
  simp
  rw [wp_srcR (g0 .refl)]
  refine wp_lcRF (g := rwv) (g0 .refl) isWr (fun r => .str (wtx r)) C (fun r hr => ?_) ?_
  · have n1 : ¬ (("lift" : Str) = ("write" : Str)) := by decide
    have n2 : ¬ (("lower" : Str) = ("write" : Str)) := by decide
    have n3 : ¬ (("trim" : Str) = ("write" : Str)) := by decide
    cases r <;> simp [wipeA, rwv, isWr, wtx, n1, n2, n3]
  have hrc := run_code_all (i := i) hR hF oF hT oT
  have hck := code_ok (i := i) hR hT hmem (by omega) (by omega)
  have hfl2 := filt (i := i) (T := T) (L := laid F T)
  rw [← hC] at hrc hck hfl2
  have hCl : C.length ≤ 50 := by
    rw [hC, codeR]
    split
    · simp
    · rw [List.length_cons, List.length_append, hfl]
      simp
      omega
  have hsum : ((C.filter isWr).map fun r => (wtx r).length).sum ≤ 360 := by
    rw [hfl2]
    split
    · simp
    · simp [wtx]
      omega
  have hwsum : (C.map wln).sum ≤ 400 := by
    have : ∀ G : List Rw, (G.map wln).sum = ((G.filter isWr).map fun r => (wtx r).length).sum := fun G => by
      induction G with
      | nil => rfl
      | cons r G ih =>
        cases r with
        | wr s => rw [List.filter_cons_of_pos rfl]; simp only [List.map_cons, List.sum_cons, ih, wln, wtx]
        | _ => rw [List.filter_cons_of_neg (by simp [isWr])]; simp only [List.map_cons, List.sum_cons, ih, wln]; omega
    rw [this]
    omega
  obtain ⟨ws, hws⟩ : ∃ ws, ws = (C.filter isWr).map wtx := ⟨_, rfl⟩
  have hwl : (ws.map (·.length)).sum ≤ 360 := by rw [hws, List.map_map]; exact hsum
  rw [← hws] at hrc
  have hflen := List.length_filter_le isWr C
  refine ⟨by rw [List.length_map]; omega, ?_⟩
  have e0 : ("" : Str).length = 0 := by decide
  refine wp_join (l := ws) (by rw [hws]; simp [asL]) (by rw [e0]; simp only [SZ_lit]; omega) ?_
  have hjl : (Txt.join "" ws).length ≤ 360 := by rw [join0_len]; exact hwl
  simp
  refine ⟨by omega, ?_⟩
  obtain ⟨J2, hJ2⟩ : ∃ J2, J2 = bt F ++ Txt.join "" ws := ⟨_, rfl⟩
  have hJl : J2.length ≤ 700 := by rw [hJ2, app_len]; omega
  rw [← hJ2] at hrc ⊢
  have hYF : okY R ⟨F, none, bt F⟩ := ⟨hF, oF, fun a e => (by cases e), bt_ok⟩
  have hYT : okY R ⟨T, none, J2⟩ := runY_ok hYF hck hrc
  refine hK _ _ ?_
  clear hK K
  refine wps_seqK fun K hK => ?_
  refine wps_skip ?_ (hK _ _ ?_)
  · simp
    rw [wp_tupR (g0 .refl), show PV.tup [fv F, .non, .str (bt F)] = yv ⟨F, none, bt F⟩ from rfl]
    refine run_sp hR hYF hck (by show (bt F).length + _ ≤ _; omega) ?_
    rw [hrc]
    show wpX _ (qRepr [yv ⟨T, none, J2⟩] _) _
    rw [rp_yv hR hYT (by show J2.length ≤ _; omega), show PV.tup [fv T, .non, .str J2] = yv ⟨T, none, J2⟩ from rfl, rp_yv hR hYT (by show J2.length ≤ _; omega)]
    simp
  clear hK K
  refine wps_seqK fun K hK => ?_
  simp
  have rl : (rws T (laid F T)).length = (laid F T).length := by simp [rws]
  rw [rl, show ((laid F T).length : Int) + 1 = (((laid F T).length + 1 : Nat) : Int) by omega]
  refine takeN hs.app (by omega) (by omega) fun m st2 hm hdb => ?_
  obtain ⟨x2, rfl, hd2⟩ := Dr.app hlt hdb
  refine ⟨_, rfl, ?_⟩
  have htd := (List.take_append_drop m (laid F T)).symm
  rw [cut_take, show (rws T (laid F T)).take m = rws T ((laid F T).take m) by simp [rws, List.map_take]]
  refine done_law hR hF oF hT oT htd ?_
  obtain ⟨hG, oG⟩ := stand_ok hR hF oF hT oT _ _ htd
  generalize pl T F ((laid F T).take m) = G at *
  have hlG : G.length = T.length := by rw [hG.1, hT.1]
  have hll2 := laid_len (F := G) (T := T) (by omega)
  refine hK _ _ ?_
  clear hK K
  simp
  refine lay_sp hR hG oG hT oT ?_
  rw [rp_rws hR hT (fun x h => laid_mem h) hll2]
  refine laid_law hlG oT (by omega) ?_
  simp
  rw [rp_rws hR hT (fun x h => laid_mem h) hll2]
  simp
  exact Gc.dr (s := s) rfl hd2 rfl (q x2 hd2)
end
end K86
namespace K86
open PySem PySem.Spec PyProof.Rows L2 DN Lib
variable {Xp : EP}
section
variable {Q : PV → Store → Prop} {st : Store} {F G T : List Pl} {R A B L : List Nat} {x y n s : Nat} {p v w f g' : PV} {i j : Int}
def rf (i : Int) (a b : Bool) : PV := .tup [.str ("refused" : Str), .int i, .bl a, .bl b]
theorem heard_forest {g : List PV → M PV} {cs : List PV} (hg : ∀ (X : EP) (QQ : PV → Store → Prop), X "BadForest" (.int i) st → wpX X (g cs st) QQ) (q : Q (rf i true false) st) : (wpX Xp) (d__law_heard g [.fnv cs] st) Q := by
  refine wp_fn ?_
  simp
  refine hg _ _ ?_
  refine wps_hit (by decide +kernel) ?_
  simp [nE]
  rw [wp_isE (b := true) (by decide +kernel)]
  try simp
  rw [wp_isE (b := false) (by decide +kernel)]
  try simp
  exact ⟨rfl, Gc.same rfl q⟩
theorem heard_number {g : List PV → M PV} {cs : List PV} (hg : ∀ (X : EP) (QQ : PV → Store → Prop), X "BadNumber" (.int i) st → wpX X (g cs st) QQ) (q : Q (rf i false true) st) : (wpX Xp) (d__law_heard g [.fnv cs] st) Q := by
  refine wp_fn ?_
  simp
  refine hg _ _ ?_
  refine wps_hit (by decide +kernel) ?_
  simp [nE]
  rw [wp_isE (b := false) (by decide +kernel)]
  try simp
  rw [wp_isE (b := true) (by decide +kernel)]
  try simp
  exact ⟨rfl, Gc.same rfl q⟩
theorem rp_rf (h : i.natAbs < 10 ^ 40) {a b : Bool} {X : EP} {QQ : PV → Store → Prop} {st : Store} : wpX X (qRepr [rf i a b] st) QQ = QQ (.str (rp (rf i a b))) st := by
  refine wp_rpL (n := 20) ?_ (by decide) ?_
  · have a1 : qL 19 (.str ("refused" : Str)) = true := by simp only [qL]; decide +kernel
    simp only [rf, qL, List.all_cons, List.all_nil, Bool.and_true, Bool.and_eq_true, decide_eq_true_eq]
    exact ⟨by simpa only [qL, Bool.and_eq_true, decide_eq_true_eq] using a1, h⟩
  · simp only [rf, DN.szL, List.map_cons, List.map_nil, List.sum_cons, List.sum_nil]
    omega
theorem fb_at : ∀ {l : List PV} {i k : Nat} (h : k < l.length), (∀ j (hj : j < k), plB R (i + j) (l[j]'(by omega)) = true) → plB R (i + k) l[k] = false → fb R i l = some (i + k)
  | p :: l, i, 0, _, _, hb => by
    unfold fb
    simp at hb
    rw [hb]
    simp
  | p :: l, i, k + 1, h, hg, hb => by
    unfold fb
    have h0 := hg 0 (by omega)
    simp at h0
    rw [h0]
    simp only [if_true]
    have := fb_at (l := l) (i := i + 1) (k := k) (by simpa using h) (fun j hj => by
      have := hg (j + 1) (by omega)
      simpa [Nat.add_assoc, Nat.add_comm 1 j] using this) (by simpa [Nat.add_assoc, Nat.add_comm 1 k] using hb)
    rw [this]
    congr 1
    omega
theorem fb_set (hF : okF R F) (hx : x < R.length) (hp : plB R x p = false) : fb R 0 ((F.map Lib.pv).set x p) = some x := by
  have hFl := hF.1
  have := fb_at (R := R) (l := (F.map Lib.pv).set x p) (i := 0) (k := x) (by simp; omega) (fun j hj => by
    have := fb_none.mp (fb_ok hF) j (by simp; omega)
    rw [List.getElem_set_ne (by omega)]
    exact this) (by
    rw [List.getElem_set_self]
    simpa using hp)
  simpa using this
theorem put_any (hx : x < F.length) (hz : F.length ≤ 1000) (hc : DN.cl p = true) (h : Q (.tup ((F.map Lib.pv).set x p)) st) : (wpX Xp) (_law_hung [fv F, .int x, p] st) Q := by
  refine wp_fn ?_
  simp [fv]
  rw [cut_take, show ((x : Int) + 1) = ((x + 1 : Nat) : Int) by omega, cut_drop]
  refine ⟨by simp; omega, by simp; omega, ?_⟩
  have e := set_cut2 (l := F.map Lib.pv) (i := x) (p := p) (by simpa using hx)
  rw [e]
  refine Gc.same ?_ h
  rw [cl_tup]
  refine cls_iff.mpr fun q hq => ?_
  rcases List.mem_or_eq_of_mem_set hq with h | rfl
  · exact (cls_iff.mp (cls_pvF (F := F))) q h
  · exact hc
structure FB (R : List Nat) (f : PV) (i : Int) : Prop where
  my : ∀ (X : EP) (Q : PV → Store → Prop) (st : Store), X "BadForest" (.int i) st → wpX X (made_forest [rv R, f] st) Q
theorem fB_len (hR : okR R) (hd : dab 20 f = true) (h : ∀ l, f = .tup l → l.length ≠ R.length) : FB R f (-1) :=
  ⟨fun X Q st q => made_forest_any hR hd (fun _ => q) (fun l i e hl => absurd hl (h l e)) (fun F i e hF => by subst e; exact absurd (by simpa using hF.1) (h _ rfl)) (fun F e hF => by subst e; exact absurd (by simpa using hF.1) (h _ rfl))⟩
theorem fB_set (hR : okR R) (hF : okF R F) (hx : x < R.length) (hd : dab 18 p = true) (hp : plB R x p = false) : FB R (.tup ((F.map Lib.pv).set x p)) x := by
  have hb := fb_set hF hx hp
  have hFl := hF.1
  have hl : ((F.map Lib.pv).set x p).length = R.length := by simp; omega
  have dF : dab 19 (fv F) = true := dab_fv (m := 17)
  have dd : dab 19 (.tup ((F.map Lib.pv).set x p)) = true := by
    simp only [dab, fv, List.all_eq_true] at dF ⊢
    intro q hq
    rcases List.mem_or_eq_of_mem_set hq with h | rfl
    · exact dF q h
    · exact hd
  refine ⟨fun X Q st q => made_forest_any hR (dab_mono (n := 19) (by omega) dd) (fun h => absurd hl (h _ rfl)) (fun l i e _ h => ?_) (fun G i e hG _ => ?_) (fun G e hG _ => ?_)⟩
  · cases e
    rw [hb] at h
    cases h
    exact q
  · exfalso
    have : (F.map Lib.pv).set x p = G.map Lib.pv := by simpa [fv] using e
    rw [this, fb_ok hG] at hb
    cases hb
  · exfalso
    have : (F.map Lib.pv).set x p = G.map Lib.pv := by simpa [fv] using e
    rw [this, fb_ok hG] at hb
    cases hb
theorem lay_bad1 {X : EP} {QQ : PV → Store → Prop} (hR : okR R) (h : FB R f i) (q : X "BadForest" (.int i) st) : wpX X (d_lay [rv R, f, g'] st) QQ := by
  refine wp_fn ?_
  simp
  refine made_rooms_spec hR ?_
  try simp
  exact h.my _ _ _ (Gc.same (by simp) q)
theorem lay_bad2 {X : EP} {QQ : PV → Store → Prop} (hR : okR R) (hF : okF R F) (oF : Fo F) (h : FB R f i) (q : X "BadForest" (.int i) st) : wpX X (d_lay [rv R, fv F, f] st) QQ := by
  refine wp_fn ?_
  simp
  refine made_rooms_spec hR ?_
  try simp
  refine made_forest_ok hR hF oF.nr ?_
  try simp
  exact h.my _ _ _ (Gc.same (by simp) q)
theorem code_bad {X : EP} {QQ : PV → Store → Prop} {p q0 : PV} (h : ∀ (X : EP) (QQ : PV → Store → Prop), X "BadForest" (.int i) st → wpX X (d_lay [rv R, p, q0] st) QQ) (q : X "BadForest" (.int i) st) : wpX X (d_lay_code [rv R, p, q0, v] st) QQ := by
  refine wp_fn ?_
  simp
  exact h _ _ (Gc.same (by simp) q)
theorem code_low {X : EP} {QQ : PV → Store → Prop} (hR : okR R) (hF : okF R F) (oF : Fo F) (hT : okF R T) (oT : Fo T) (h : i < 1) (q : X "BadNumber" (.int i) st) : wpX X (d_lay_code [rv R, fv F, fv T, .int i] st) QQ := by
  refine wp_fn ?_
  simp
  refine lay_sp hR hF oF hT oT ?_
  try simp
  exact want_bad h (Gc.same (by simp) q)
theorem refusals_law (hs : SrcAt st s) (hR : okR R) (hF : okF R F) (oF : Fo F) (hT : okF R T) (oT : Fo T) (q : ∀ st', Dr s st st' → Q (.bl true) st') : (wpX Xp) (d__law_refusals_right [.ref s, rv R, fv F, fv T] st) Q := by
  have h24 := hR.1
  have hTl := hT.1
  have hFl := hF.1
  have yes : ∀ st', Dr s st st' → Gc st (.bl true) st' Q := fun st' h => Gc.dr0 (s := s) rfl h (q st' h)
  refine wp_fn ?_
  refine wps_seqK fun K hK => ?_
  simp [lenR]
  refine one_spec hs (by simp) (by simp) (by simp) fun v st1 hv hd1 => ?_
  obtain ⟨lo, rfl, hlo, hl40⟩ : ∃ lo : Int, v = .int lo ∧ lo < 1 ∧ lo.natAbs < 10 ^ 40 := by
    simp at hv
    rcases hv with rfl | rfl | rfl
    all_goals exact ⟨_, rfl, by decide, by decide⟩
  try simp
  refine hK _ _ ?_
  clear hK K
  refine wps_seqK fun K hK => ?_
  refine wps_skip ?_ (hK _ _ ?_)
  · simp
    refine wp_lam1 (cs := [rv R, fv F, fv T, .int lo]) rfl ?_
    refine heard_number (i := lo) (fun X QQ h' => wp_lamF rfl ?_) ?_
    · simp
      exact code_low hR hF oF hT oT hlo (Gc.same (by simp) h')
    · refine ⟨rfl, samF_rfl, ?_⟩
      rw [rp_rf hl40, show PV.tup [.str (Str.ofString "refused"), .int lo, .bl false, .bl true] = rf lo false true from rfl, rp_rf hl40]
      simp
  clear hK K
  refine wps_seqK fun K hK => ?_
  refine wps_ifB (decide (R.length = 0)) ?_ (fun c => ?_) (fun c => ?_)
  · simp
    try omega
  · simp
    exact yes st1 hd1
  have h0 : 0 < R.length := Nat.pos_of_ne_zero (of_decide_eq_false c)
  simp
  refine hK _ _ ?_
  clear hK K
  refine wps_seqK fun K hK => ?_
  simp
  refine takeN (hd1.src hs) h0 (by omega) fun x st2 hx hd2 => ?_
  have hd2 := hd1.trans hd2
  refine takeN (hd2.src hs) h0 (by omega) fun y st3 hy hd3 => ?_
  have hd3 := hd2.trans hd3
  refine hK _ _ ?_
  clear hK K
  refine wps_seqK fun K hK => ?_
  simp
  refine put_any (by omega) (by omega) (by simp) ?_
  refine put_any (by omega) (by omega) (by simp) ?_
  have d2 : ∀ i j : Int, dab 18 (.tup [.int i, .int j]) = true := fun i j => by simp [dab]
  have f1 : FB R (.tup ((F.map Lib.pv).set x (.tup [.int R.length, .int 0]))) x := fB_set hR hF hx (d2 _ _) (by simp [plB])
  have f2 : FB R (.tup ((T.map Lib.pv).set y (.tup [.int y, .int 0]))) y := fB_set hR hT hy (d2 _ _) (by simp [plB])
  have f3 : FB R (.tup ((F.map Lib.pv).drop 1)) (-1) := by
    rw [← List.map_drop]
    exact fB_len hR (dab_fv (m := 18)) fun l e => by cases e; simp; omega
  obtain ⟨b, hb⟩ : ∃ b, b = PV.tup ((F.map Lib.pv).set x (.tup [.int R.length, .int 0])) := ⟨_, rfl⟩
  obtain ⟨o, ho⟩ : ∃ o, o = PV.tup ((T.map Lib.pv).set y (.tup [.int y, .int 0])) := ⟨_, rfl⟩
  obtain ⟨e, he⟩ : ∃ e, e = PV.tup ((F.map Lib.pv).drop 1) := ⟨_, rfl⟩
  rw [← hb] at f1 ⊢
  rw [← ho] at f2 ⊢
  rw [← he] at f3
  refine hK _ _ ?_
  clear hK K
  refine wps_seqK fun K hK => ?_
  simp
  rw [show fv F = .tup (F.map Lib.pv) from rfl]
  simp
  rw [show DN.cut (F.map Lib.pv) (some 1) none = (F.map Lib.pv).drop 1 from cut_drop (k := 1), ← he, show PV.tup (F.map Lib.pv) = fv F from rfl]
  obtain ⟨l, hl⟩ : ∃ l : List PV, l = [.tup [b, fv T, .int x], .tup [fv F, o, .int y], .tup [b, o, .int x], .tup [e, o, .int (-1)]] := ⟨_, rfl⟩
  have hlm : ∀ p ∈ l, ∃ (u t : PV) (d : Int), p = .tup [u, t, .int d] ∧ d.natAbs < 10 ^ 40 ∧ ∀ (X : EP) (QQ : PV → Store → Prop) (st : Store), X "BadForest" (.int d) st → wpX X (d_lay [rv R, u, t] st) QQ := fun p hp => by
    rw [hl] at hp
    simp only [List.mem_cons, List.not_mem_nil, or_false] at hp
    rcases hp with rfl | rfl | rfl | rfl
    · exact ⟨b, fv T, x, rfl, by omega, fun X QQ st h => lay_bad1 hR f1 h⟩
    · exact ⟨fv F, o, y, rfl, by omega, fun X QQ st h => lay_bad2 hR hF oF f2 h⟩
    · exact ⟨b, o, x, rfl, by omega, fun X QQ st h => lay_bad1 hR f1 h⟩
    · exact ⟨e, o, -1, rfl, by decide, fun X QQ st h => lay_bad1 hR f3 h⟩
  rw [← hl]
  refine wps_forLo (fun m σ st' => (∀ p ∈ m, p ∈ l) ∧ σ = [some (.ref s), some (rv R), some (fv F), some (fv T), some (.int R.length), some (.int lo), some (.int x), some (.int y), some b, some o, none, none, none] ∧ st' = st3) l ?_ ?_ ⟨fun _ h => h, rfl, rfl⟩
  · rintro I hI p r σ st' ⟨hm, rfl, rfl⟩
    obtain ⟨u, t, d, rfl, hd40, hbad⟩ := hlm p (hm p (by simp))
    have nxt := hI r _ _ ⟨fun q hq => hm q (by simp [hq]), rfl, rfl⟩
    simp
    refine wp_lam1 (cs := [rv R, u, t]) rfl ?_
    refine heard_forest (i := d) (fun X QQ h' => wp_lamF rfl ?_) ?_
    · simp
      exact hbad _ _ _ (Gc.same (by simp) h')
    refine ⟨rfl, samF_rfl, ?_⟩
    rw [rp_rf hd40, show PV.tup [.str (Str.ofString "refused"), .int d, .bl true, .bl false] = rf d true false from rfl, rp_rf hd40]
    simp
    refine wp_lam1 (cs := [rv R, u, t, .int lo]) rfl ?_
    refine heard_forest (i := d) (fun X QQ h' => wp_lamF rfl ?_) ?_
    · simp
      exact code_bad (fun X QQ h => hbad X QQ _ h) (Gc.same (by simp) h')
    refine ⟨rfl, samF_rfl, ?_⟩
    rw [rp_rf hd40, rp_rf hd40]
    simp
    simpa [wipeA] using nxt
  · rintro σ st' ⟨_, rfl, rfl⟩
    simp [wipeA]
    refine hK _ _ ?_
    clear hK K
    simp
    exact yes _ hd3
end
end K86
namespace K86
open PySem PySem.Spec PyProof.Rows L2 DN Lib
open Classical in
theorem law_true (ns : List Int) (h63 : ns.length ≤ 63) (hsz : ∀ z ∈ ns, Builtin.Int.intBits z ≤ 1048576) : ∃ st, d_law [.scr (ns.map PV.int)] [] = .ok (.bl true) st := by
  have key : wpX EF (d_law [.scr (ns.map PV.int)] []) (fun v _ => v = .bl true) := by
    refine wp_fn ?_
    have fin : ∀ st', Gc [] (.bl true) st' fun v x => v = .bl true := fun st' => Gc.pure (junk := st') (by simp) (by simp) rfl
    refine wps_seqK fun K hK => ?_
    simp
    refine pool_spec (by omega) (by omega) fun a b ha hb => ?_
    refine hK _ _ ?_
    clear hK K
    have hs : SrcAt ([] ++ [.lst [.int a, .int b]]) 0 := ⟨a, b, by simp, ha, hb⟩
    generalize ([] : Store) ++ [SO.lst [.int a, .int b]] = st1 at hs
    refine wps_seqK fun K hK => ?_
    simp
    refine takeN (top := 24) hs (by omega) (by omega) fun m0 st2 hm0 hd2 => ?_
    simp
    refine one_spec (hd2.src hs) (by simp) (by simp) (by simp) fun v st3 hv hd3 => ?_
    have hd3 := hd2.trans hd3
    obtain ⟨m, rfl, hm⟩ : ∃ m : Nat, v = .int m ∧ m ≤ 24 := by
      simp only [List.mem_cons, List.not_mem_nil, or_false] at hv
      rcases hv with rfl | rfl | rfl | rfl | rfl | rfl | rfl | rfl
      · exact ⟨3, rfl, by omega⟩
      · exact ⟨5, rfl, by omega⟩
      · exact ⟨8, rfl, by omega⟩
      · exact ⟨24, rfl, by omega⟩
      · exact ⟨2, rfl, by omega⟩
      · exact ⟨1, rfl, by omega⟩
      · exact ⟨0, rfl, by omega⟩
      · exact ⟨1 + m0, by simp, by omega⟩
    refine hK _ _ ?_
    clear hK K
    refine wps_seqK fun K hK => ?_
    simp
    refine ⟨rgN (by omega), ?_⟩
    rw [rgP_nat]
    refine wp_lcM (fun (r : List Nat) acc st' => ∃ R : List Nat, acc = R.map nv ∧ R.length + r.length = m ∧ (∀ r ∈ R, r ≤ 4) ∧ Dr 0 st1 st') _ _ ?_ ?_ ⟨[], rfl, by simp, by simp, hd3⟩
    · rintro I hI k r acc st' ⟨R, rfl, hl, hR, hd⟩
      simp [wipeA]
      refine one_spec (hd.src hs) (by simp) (by simp) (by simp) fun v st2 hv hd2 => ?_
      have : ∃ c : Nat, v = nv c ∧ c ≤ 4 := by
        simp only [List.mem_cons, List.not_mem_nil, or_false] at hv
        rcases hv with rfl | rfl | rfl | rfl | rfl | rfl
        · exact ⟨1, rfl, by omega⟩
        · exact ⟨2, rfl, by omega⟩
        · exact ⟨1, rfl, by omega⟩
        · exact ⟨0, rfl, by omega⟩
        · exact ⟨3, rfl, by omega⟩
        · exact ⟨4, rfl, by omega⟩
      obtain ⟨c, rfl, hc⟩ := this
      refine hI _ _ _ ⟨R ++ [c], by simp, by simp at hl ⊢; omega, fun a ha => ?_, hd.trans hd2⟩
      rcases List.mem_append.mp ha with h | h
      · exact hR a h
      · simp at h; omega
    rintro acc st4 ⟨R, rfl, hRl, hR4, hd4⟩
    simp at hRl
    have hR : okR R := ⟨by omega, hR4⟩
    refine ⟨by rw [List.length_map]; omega, ?_⟩
    rw [show PV.tup (R.map nv) = rv R from rfl]
    refine hK _ _ ?_
    clear hK K
    refine wps_seqK fun K hK => ?_
    simp
    refine forest_law (hd4.src hs) hR fun F st5 hF oF hd5 => ?_
    have hd5 := hd4.trans hd5
    refine hK _ _ ?_
    clear hK K
    refine wps_seqK fun K hK => ?_
    simp
    refine takeN (top := 99) (hd5.src hs) (by omega) (by omega) fun n1 st6 hn1 hd6 => ?_
    have hd6 := hd5.trans hd6
    refine take_spec (hd6.src hs) (by decide) (by simp only [B200_eq]; decide) fun n2 st7 h0 h1 hd7 => ?_
    have hd7 := hd6.trans hd7
    refine one_spec (hd7.src hs) (by simp) (by simp) (by simp) fun v st8 hv hd8 => ?_
    have hd8 := hd7.trans hd8
    obtain ⟨i, rfl, hi0, hi1⟩ : ∃ i : Int, v = .int i ∧ 0 ≤ i ∧ i < 10 ^ 16 := by
      simp only [List.mem_cons, List.not_mem_nil, or_false] at hv
      rcases hv with rfl | rfl | rfl
      · exact ⟨0, rfl, by omega, by decide⟩
      · exact ⟨n1, rfl, by omega, by omega⟩
      · exact ⟨n2, rfl, h0, by omega⟩
    simp
    refine hK _ _ ?_
    clear hK K
    refine wps_seqK fun K hK => ?_
    simp
    refine forest_law (hd8.src hs) hR fun T0 st9 hT0 oT0 hd9 => ?_
    have hd9 := hd8.trans hd9
    refine takeN (top := 6) (hd9.src hs) (by omega) (by omega) fun w st10 hw hd10 => ?_
    have hd10 := hd9.trans hd10
    refine hK _ _ ?_
    clear hK K
    refine wps_seqK fun K hK => ?_
    have go : ∀ T st', okF R T → Fo T → Dr 0 st1 st' → K [some (.scr (ns.map .int)), some (.ref 0), some (.int m), some (rv R), some (fv F), some (.int (1 + i)), some (fv T), some (.int w), none] st' := fun T st' hT oT hd => by
      refine hK _ _ ?_
      clear hK K
      refine wps_seqK fun K hK => ?_
      rw [wps_if]
      simp
      refine both_right_law (hd.src hs) hR hF oF hT oT (by omega) (by omega) fun st11 hd11 => ?_
      have hd11 := hd.trans hd11
      simp
      refine hK _ _ ?_
      clear hK K
      simp
      refine refusals_law (hd11.src hs) hR hF oF hT oT fun st12 hd12 => ?_
      exact fin _
    rw [wps_if]
    simp
    by_cases c : w = 0
    · simp [c]
      have h := go F st10 hF oF hd10
      rw [c] at h
      exact h
    have c' : ¬ ((w : Int) = 0) := by omega
    simp [c]
    by_cases c1 : w < 3 ∧ 0 < m
    · have e1 : (w : Int) < 3 := by omega
      simp [e1, c1.2]
      refine changed_law (hd10.src hs) hR (by omega) hF oF fun T st11 hT oT hd11 => ?_
      exact go T st11 hT oT (hd10.trans hd11)
    · have g := go T0 st10 hT0 oT0 hd10
      by_cases c2 : w < 3
      · have c3 : ¬ 0 < m := fun h => c1 ⟨c2, h⟩
        simp only [decide_eq_false c3, cnd]
        by_cases e1 : (w : Int) < 3
        · simpa [e1] using g
        · simpa [e1] using g
      · have e1 : ¬ (w : Int) < 3 := by omega
        simpa [e1] using g
  obtain ⟨v, st, h1, h2⟩ := wp_ok_of key
  exact ⟨st, by rw [h1, h2]⟩
end K86
set_option maxHeartbeats 0
open PySem PySem.W PySem.Calls PyProof.Rows
theorem PySem.Challenge.cw_nestsay_k86_a_yard_laid_anew_holds : PySem.Challenge.rw_nestsay_k86_a_yard_laid_anew.Holds := by
  w_on; o_law
  refine HandSHeadRun.head_any (r := OpenLaw.row PySem.Challenge.rw_nestsay_k86_a_yard_laid_anew) (q := view (OpenLaw.row PySem.Challenge.rw_nestsay_k86_a_yard_laid_anew).prog [65]) (H := K86.hk) (ob := K86.ob) (M := 7000) (loose := K86.loose) (d := HandSHeadRun.topDef (OpenLaw.row PySem.Challenge.rw_nestsay_k86_a_yard_laid_anew).prog 65) (kwd := []) K86.ob_eq
    (by kernel_rfl) (fun s => by kernel_rfl) K86.run (by kernel_rfl) (by kernel_rfl) (by kernel_rfl) (by rfl) (by first | assumption | decide +kernel) (by decide +kernel) ⟨rfl, rfl, rfl, rfl, rfl, by decide +kernel⟩ ?hw ?hc
  case hw => w_witness2
  case hc =>
    exact DN.law_walkT (l := PySem.Challenge.rw_nestsay_k86_a_yard_laid_anew) (k := 10) (d := HandSHeadRun.topDef (OpenLaw.row PySem.Challenge.rw_nestsay_k86_a_yard_laid_anew).prog 65) (dl := K86.d_law) rfl (by kernel_rfl) ⟨rfl, by decide, by decide⟩ (fun w mg h ⟨K, KX, c, d⟩ hns => K86.lawF KX hns c d) K86.law_true
