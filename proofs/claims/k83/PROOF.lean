import PyProof.Rows.All
import HandS.ForMost
import HandS.Exc
import HandS.WordsExc
import HandS.Lambda
import HandS.HeadHook1
import HandS.Words
import PySem.Challenge.RW_nevermelted_k83_what_queues_refuse
import HandS.Star
import HandS.TupAny
import HandS.IsInst
import KE.SortData
import KE.DataEq
import KE.DataCmp
import KE.DataMinMax
import KE.DataAny
import KE.DataFind
import KE.DataIsa
import KE.SortKeyHeap
import HandS.Wide
import HandS.Style
import HandS.TupMul
import HandS.Comp
import HandS.Iter
import HandS.Zip
import HandS.Flow
import HandS.ExcInit
import HandS.ExcSuper
import HandS.HeadHook4
import KE.KExcSuper
import KE.KSuper
import KE.GoesZip
import KE.GoesMore
import KE.GoesEnum
import HandS.Text
import HandS.SortKw
import HandS.SetFor
import HandS.Set
import KE.KSortKey
import KE.KDictZip
import HandS.Nested
import KE.KExcIs
import HandS.ExcField
import HandS.Conv
import HandS.HeadWalk
import HandS.Head0
import HandS.Head1
import HandS.Head2
import HandS.HeadEnd
set_option Elab.async false
set_option linter.all false
set_option maxRecDepth 100000
/-! PD 0: the texts of the lambdas that are handed on. -/
namespace PD
open PySem L2
structure LamTxt where
  qual : Str
  params : Arguments
  body : Expr
  scope : Scope
  ps : List Str
  caps : List Str
/-- the names that a lambda captures, in the order of its cells -/
def freeOf (names : List (Str × NameKind)) : List Str := ((names.filter fun y => y.2 == .free).map (·.1)).reverse
def noE : Expr := .Constant .none 0 ⟨0, 0, 0, 0⟩
def noS : Stmt := .Pass ⟨0, 0, 0, 0⟩
/-- the statement's expression -/
def sX : Stmt → Expr
  | .Return (some e) _ => e
  | .Expr e _ => e
  | .Assign _ e _ => e
  | _ => noE
/-- the expression's part i -/
def eX (i : Nat) : Expr → Expr
  | .Call _ es _ _ => es.getD i noE
  | .List es _ => es.getD i noE
  | .Tuple es _ _ => es.getD i noE
  | _ => noE
def lamOf (q : Str) (e : Expr) : LamTxt := match e with
  | .Lambda ps b sc _ => ⟨q, ps, b, sc, ps.args.map (·.arg), freeOf sc.names⟩
  | _ => ⟨q, { posonlyargs := [], args := [], vararg := none, kwonlyargs := [], kw_defaults := [], kwarg := none, defaults := [] }, noE, { kind := .function, names := [], isGenerator := false, isCoroutine := false }, [], []⟩
def ptop (i : Nat) : Stmt := PySem.Challenge.pw_nevermelted_k83_what_queues_refuse.main.body.getD i noS
def tx_0 : LamTxt := lamOf "fewest_late.<locals>.<lambda>" (eX 1 <| sX <| (defBody (ptop 56)).getD 0 noS)
def tx_1 : LamTxt := lamOf "shows_least_late.<locals>.<lambda>" (eX 3 <| sX <| (defBody (ptop 61)).getD 1 noS)
def tx_2 : LamTxt := lamOf "least_lateness.<locals>.<lambda>" (eX 1 <| sX <| (defBody (ptop 62)).getD 0 noS)
def tx_3 : LamTxt := lamOf "shows_least_greatest.<locals>.<lambda>" (eX 3 <| sX <| (defBody (ptop 64)).getD 1 noS)
def tx_4 : LamTxt := lamOf "least_waiting.<locals>.<lambda>" (eX 1 <| sX <| (defBody (ptop 65)).getD 0 noS)
def tx_5 : LamTxt := lamOf "shows_least_waits.<locals>.<lambda>" (eX 3 <| sX <| (defBody (ptop 67)).getD 1 noS)
def tx_6 : LamTxt := lamOf "_law_right.<locals>.<lambda>" (eX 0 <| eX 0 <| sX <| (defBody (ptop 76)).getD 8 noS)
def tx_7 : LamTxt := lamOf "_law_right.<locals>.<lambda>" (eX 0 <| eX 0 <| sX <| (defBody (ptop 76)).getD 9 noS)
def tx_8 : LamTxt := lamOf "_law_right.<locals>.<lambda>" (eX 0 <| eX 0 <| sX <| (defBody (ptop 76)).getD 10 noS)
def tx_9 : LamTxt := lamOf "_law_right.<locals>.<lambda>" (eX 0 <| eX 0 <| sX <| (defBody (ptop 76)).getD 11 noS)
def tx_10 : LamTxt := lamOf "_law_right.<locals>.<lambda>" (eX 0 <| eX 0 <| sX <| (defBody (ptop 76)).getD 12 noS)
def tx_11 : LamTxt := lamOf "_law_right.<locals>.<lambda>" (eX 0 <| eX 0 <| sX <| (defBody (ptop 76)).getD 13 noS)
def tx_12 : LamTxt := lamOf "_law_right.<locals>.<lambda>" (eX 0 <| eX 0 <| sX <| (defBody (ptop 76)).getD 14 noS)
def tx_13 : LamTxt := lamOf "_law_right.<locals>.<lambda>" (eX 0 <| eX 0 <| sX <| (defBody (ptop 76)).getD 15 noS)
def tx_14 : LamTxt := lamOf "_law_right.<locals>.<lambda>" (eX 0 <| eX 0 <| sX <| (defBody (ptop 76)).getD 16 noS)
def tx_15 : LamTxt := lamOf "_law_right.<locals>.<lambda>" (eX 0 <| eX 0 <| sX <| (defBody (ptop 76)).getD 17 noS)
def tx_16 : LamTxt := lamOf "_law_right.<locals>.<lambda>" (eX 0 <| eX 0 <| sX <| (defBody (ptop 76)).getD 18 noS)
def tx_17 : LamTxt := lamOf "_law_right.<locals>.<lambda>" (eX 0 <| eX 0 <| sX <| (defBody (ptop 76)).getD 19 noS)
def tx_18 : LamTxt := lamOf "_law_right.<locals>.<lambda>" (eX 0 <| eX 0 <| sX <| (defBody (ptop 76)).getD 20 noS)
def tx_19 : LamTxt := lamOf "_law_right.<locals>.<lambda>" (eX 0 <| eX 0 <| sX <| (defBody (ptop 76)).getD 21 noS)
def tx_20 : LamTxt := lamOf "_law_right.<locals>.<lambda>" (eX 0 <| eX 0 <| sX <| (defBody (ptop 76)).getD 22 noS)
def tx_21 : LamTxt := lamOf "_law_right.<locals>.<lambda>" (eX 0 <| eX 0 <| sX <| (defBody (ptop 76)).getD 23 noS)
def tx_22 : LamTxt := lamOf "_law_right.<locals>.<lambda>" (eX 0 <| eX 0 <| sX <| (defBody (ptop 76)).getD 24 noS)
def tx_23 : LamTxt := lamOf "_law_right.<locals>.<lambda>" (eX 0 <| eX 0 <| sX <| (defBody (ptop 76)).getD 25 noS)
def lams : List LamTxt := [tx_0, tx_1, tx_2, tx_3, tx_4, tx_5, tx_6, tx_7, tx_8, tx_9, tx_10, tx_11, tx_12, tx_13, tx_14, tx_15, tx_16, tx_17, tx_18, tx_19, tx_20, tx_21, tx_22, tx_23]
/-- the tables of code objects, of the defs that make lambdas -/
def tabs : List (Addr × Str) := [(299, "fewest_late.<locals>.<lambda>"), (334, "shows_least_late.<locals>.<lambda>"), (341, "least_lateness.<locals>.<lambda>"), (355, "shows_least_greatest.<locals>.<lambda>"), (362, "least_waiting.<locals>.<lambda>"), (376, "shows_least_waits.<locals>.<lambda>"), (432, "_law_right.<locals>.<lambda>")]
end PD
set_option maxHeartbeats 2000000
/-! PD: python data as plain Lean values, over the hand layer. 1: results, kinds of slots, what a value says. -/
namespace PD
open PySem PySem.Spec PyProof.Rows L2

/-- what a call or an expression comes to: a value, an own error of a class with its value, or nothing that is said -/
inductive Res (α : Type) where
  | ok (a : α)
  | exc (c : Str) (x : PyData)
  | bad
def Res.bind {α β : Type} (r : Res α) (f : α → Res β) : Res β := match r with
  | .ok a => f a
  | .exc c x => .exc c x
  | .bad => .bad
def Res.opt {α : Type} : Option α → Res α
  | some a => .ok a
  | none => .bad
abbrev En := List PyData
abbrev ME := En → Res PyData
abbrev ML := En → Res (List PyData)
inductive Out where
  | next (e : En)
  | ret (x : PyData)
  | cont (e : En)
abbrev MS := En → Res Out

/-- a slot: nothing known; data that stand for good; data that a caller may change behind this call; a list of this frame's own -/
inductive Kd where
  | n | d | b | o
  deriving DecidableEq
/-- a value: for good; may hold own lists; may hold a caller's; both; a list just made; an own list itself -/
inductive Fl where
  | p | t | b | x | f | o
  deriving DecidableEq

/-! ### data off the heap, none of it at S -/
/-- a list, a tuple that may be read: tracked (not at S), or of the written part -/
def SL (K : PySem.W.Frag) (H : Hp) (S : Addr → Prop) (a : Addr) (xs : List V) : Prop := ¬ S a ∧ Rd H a (.lst xs)
def ST (K : PySem.W.Frag) (H : Hp) (S : Addr → Prop) (a : Addr) (xs : List V) : Prop := (¬ S a ∧ Rd H a (.tup xs)) ∨
  ∃ (o : Obj) (its : Array Value) (n : Nat), K.lookup a = some o ∧ o.cls = .type "tuple" ∧ o.data = .seq its n ∧ its.size ≤ sizeLine ∧ Vals xs its.toList
/-- what stands, stands; a code object's table may grow -/
def Tk (H H' : Hp) (b : Addr) : HO → Prop
  | .tbl _ => (∃ ps', H' b = some (.tbl ps')) ∧ ∀ q, (b, q) ∈ PD.tabs → LamX.TabS H b q → LamX.TabS H' b q
  | o => H' b = some o
def Same (H H' : Hp) : Prop := ∀ b o, H b = some o → Tk H H' b o
theorem Tk.of {H H' : Hp} {b : Addr} {o : HO} (e : H' b = some o) (t : ∀ q, LamX.TabS H b q → LamX.TabS H' b q) : Tk H H' b o := by
  cases o with
  | tbl ps => exact ⟨⟨ps, e⟩, fun q _ => t q⟩
  | _ => exact e
theorem Tk.refl {H : Hp} {b : Addr} {o : HO} (e : H b = some o) : Tk H H b o := .of e fun _ h => h
theorem Tk.trans {H H1 H2 : Hp} {b : Addr} {o : HO} (a : Tk H H1 b o) (k : ∀ o', H1 b = some o' → Tk H1 H2 b o') : Tk H H2 b o := by
  cases o with
  | tbl ps =>
    obtain ⟨⟨ps', e⟩, t⟩ := a
    obtain ⟨e2, t2⟩ := k _ e
    exact ⟨e2, fun q hm h => t2 q hm (t q hm h)⟩
  | _ => exact k _ a
theorem Tk.some {H H' : Hp} {b : Addr} {o : HO} (a : Tk H H' b o) : H' b ≠ none := by
  intro z
  cases o with
  | tbl ps =>
    obtain ⟨⟨ps', e⟩, t⟩ := a
    rw [e] at z
    cases z
  | _ => exact nomatch (show HO → False from fun o => by
      have a' := a
      unfold Tk at a'
      simp only [z] at a'
      cases a') (.tup [])
/-- a list gets other items: all else stands -/
theorem tabS_lst {H : Hp} {D b : Addr} {xs ys : List V} {q : Str} (h : H D = some (.lst xs)) (t : LamX.TabS H b q) : LamX.TabS (upd H D (.lst ys)) b q := by
  obtain ⟨ps, h1, h2, h3⟩ := t
  refine ⟨ps, by rw [upd_ne (ne_of h1 h (by simp))]; exact h1, h2, fun pos cv hc => ?_⟩
  obtain ⟨c, e1, e2⟩ := h3 pos cv hc
  exact ⟨c, e1, by rw [upd_ne (ne_of e2 h (by unfold LamX.CodeO; simp))]; exact e2⟩
theorem tk_lst {H : Hp} {D a : Addr} {xs ys : List V} {o : HO} (h : H D = some (.lst xs)) (n : a ≠ D) (e : H a = some o) : Tk H (upd H D (.lst ys)) a o := .of (by rw [upd_ne n]; exact e) fun _ t => tabS_lst h t
theorem Same.refl (H : Hp) : Same H H := fun _ _ h => .refl h
theorem Same.trans {H H1 H2 : Hp} (a : Same H H1) (b : Same H1 H2) : Same H H2 := fun c o h => (a c o h).trans fun o' h' => b c o' h'
theorem rd_keep {H H' : Hp} {a : Addr} {xs : List V} {g : List V → HO} (hg : g = .lst ∨ g = .tup) (k : ∀ o, H a = some o → Tk H H' a o) (h : Rd H a (g xs)) : Rd H' a (g xs) := by
  rcases h with h | ⟨o, h⟩
  · refine .inl ?_
    rcases hg with rfl | rfl <;> exact k _ h
  · exact .inr ⟨o, k _ h⟩
theorem rd_some {H : Hp} {a : Addr} {u : HO} (h : Rd H a u) : H a ≠ none := by
  rcases h with h | ⟨o, h⟩ <;> (intro z; rw [h] at z; cases z)
theorem SL.mono {K : PySem.W.Frag} {H H' : Hp} {S S' : Addr → Prop} {a : Addr} {xs : List V} (k : ∀ a o, ¬ S a → H a = some o → Tk H H' a o) (hs : ∀ a, ¬ S a → H a ≠ none → ¬ S' a) (h : SL K H S a xs) : SL K H' S' a xs := ⟨hs a h.1 (rd_some h.2), rd_keep (.inl rfl) (fun o => k a o h.1) h.2⟩
theorem ST.mono {K : PySem.W.Frag} {H H' : Hp} {S S' : Addr → Prop} {a : Addr} {xs : List V} (k : ∀ a o, ¬ S a → H a = some o → Tk H H' a o) (hs : ∀ a, ¬ S a → H a ≠ none → ¬ S' a) (h : ST K H S a xs) : ST K H' S' a xs := by
  rcases h with ⟨n, h⟩ | h
  · exact .inl ⟨hs a n (rd_some h), rd_keep (.inr rfl) (fun o => k a o n) h⟩
  · exact .inr h
theorem SL.sq {K : PySem.W.Frag} {H : Hp} {S : Addr → Prop} {a : Addr} {xs : List V} (h : SL K H S a xs) : SqL K H a xs := .inl h.2
theorem ST.sq {K : PySem.W.Frag} {H : Hp} {S : Addr → Prop} {a : Addr} {xs : List V} (h : ST K H S a xs) : SqT K H a xs := by
  rcases h with ⟨_, h⟩ | h
  · exact .inl h
  · exact .inr h
/-- an object that stands while others run -/
def CelO (c : Addr) (o : Obj) : HO := .ext fun h => h.get? c = some o
/-- the captured names' cells and what they hold -/
def Caps (S : Addr → Prop) (H : Hp) : List (Str × Addr) → List V → Prop
  | [], [] => True
  | y :: ys, v :: vs => (¬ S y.2 ∧ ∃ o u, H y.2 = some (CelO y.2 o) ∧ o.data = .cell (some u) ∧ RelV v u) ∧ Caps S H ys vs
  | _, _ => False
theorem Caps.mono {H H' : Hp} {S S' : Addr → Prop} (k : ∀ a o, ¬ S a → H a = some o → Tk H H' a o) (hs : ∀ a, ¬ S a → H a ≠ none → ¬ S' a) : ∀ {ys : List (Str × Addr)} {vs : List V}, Caps S H ys vs → Caps S' H' ys vs
  | [], [], _ => trivial
  | y :: ys, v :: vs, ⟨⟨n, o, u, e, d, r⟩, t⟩ => ⟨⟨hs _ n (by rw [e]; simp), o, u, k _ _ n e, d, r⟩, Caps.mono k hs t⟩
  | [], _ :: _, h => h.elim
  | _ :: _, [], h => h.elim
/-- at f stands the lambda of number i, its captured names hold vs -/
def Clo (S : Addr → Prop) (H : Hp) (f : Addr) (i : Nat) (vs : List V) : Prop := ∃ t cl c' pm ctv, lams[i]? = some t ∧ (cl.map (·.1) = t.caps ∧ (cl.map (·.2)).Nodup) ∧ (¬ S f ∧ H f = some (CelO f (PySem.W.kla_obj "<lambda>" t.qual t.params t.body t.scope cl pm c' ctv))) ∧ (¬ S c' ∧ H c' = some (LamX.CodeO c' t.qual)) ∧ Caps S H cl vs
theorem Clo.mono {H H' : Hp} {S S' : Addr → Prop} {f : Addr} {i : Nat} {vs : List V} (k : ∀ a o, ¬ S a → H a = some o → Tk H H' a o) (hs : ∀ a, ¬ S a → H a ≠ none → ¬ S' a) (h : Clo S H f i vs) : Clo S' H' f i vs := by
  obtain ⟨t, cl, c', pm, ctv, h1, h0, ⟨h2, h3⟩, ⟨h4, h5⟩, h6⟩ := h
  exact ⟨t, cl, c', pm, ctv, h1, h0, ⟨hs _ h2 (by rw [h3]; simp), k _ _ h2 h3⟩, ⟨hs _ h4 (by rw [h5]; simp), k _ _ h4 h5⟩, h6.mono k hs⟩
/-- an exception's object at a, its class, its dict -/
def ExcO (a : Addr) (c : Value) (d : Addr) : HO := .ext fun h => ∃ o vs, h.get? a = some o ∧ o.cls = c ∧ o.dict = some d ∧ o.data = .fields vs
def Exd (K : PySem.W.Frag) (S : Addr → Prop) (H : Hp) (a d : Addr) (c : Str) (v : V) : Prop := (¬ S a ∧ H a = some (ExcO a (.ref (He.ga K c)) d)) ∧ (¬ S d ∧ H d = some (.xd [(("value" : Str), v)]))
/-- at f stands the lambda of number i over the cells cl -/
def Fnc (S : Addr → Prop) (H : Hp) (f : Addr) (i : Nat) (cl : List (Str × Addr)) : Prop := ∃ t c' pm ctv, lams[i]? = some t ∧ (cl.map (·.1) = t.caps ∧ (cl.map (·.2)).Nodup) ∧ (¬ S f ∧ H f = some (CelO f (PySem.W.kla_obj "<lambda>" t.qual t.params t.body t.scope cl pm c' ctv))) ∧ (¬ S c' ∧ H c' = some (LamX.CodeO c' t.qual))
/-- at a stands a dict of these keys -/
def Dct (S : Addr → Prop) (H : Hp) (a : Addr) (ks : List Str) (vs : List V) : Prop := ¬ S a ∧ H a = some (.dK ((ks.map Sum.inr).zip vs)) ∧ ks.length = vs.length
section
variable {K : PySem.W.Frag} {H H' : Hp} {S S' : Addr → Prop}
theorem Exd.mono {a d : Addr} {c : Str} {v : V} (k : ∀ a o, ¬ S a → H a = some o → Tk H H' a o) (hs : ∀ a, ¬ S a → H a ≠ none → ¬ S' a) (h : Exd K S H a d c v) : Exd K S' H' a d c v := by
  obtain ⟨⟨h1, h2⟩, h3, h4⟩ := h
  exact ⟨⟨hs _ h1 (by rw [h2]; simp), k _ _ h1 h2⟩, hs _ h3 (by rw [h4]; simp), k _ _ h3 h4⟩
theorem Fnc.mono {f : Addr} {i : Nat} {cl : List (Str × Addr)} (k : ∀ a o, ¬ S a → H a = some o → Tk H H' a o) (hs : ∀ a, ¬ S a → H a ≠ none → ¬ S' a) (h : Fnc S H f i cl) : Fnc S' H' f i cl := by
  obtain ⟨t, c', pm, ctv, h1, h0, ⟨h2, h3⟩, ⟨h4, h5⟩⟩ := h
  exact ⟨t, c', pm, ctv, h1, h0, ⟨hs _ h2 (by rw [h3]; simp), k _ _ h2 h3⟩, ⟨hs _ h4 (by rw [h5]; simp), k _ _ h4 h5⟩⟩
theorem Dct.mono {a : Addr} {ks : List Str} {vs : List V} (k : ∀ a o, ¬ S a → H a = some o → Tk H H' a o) (hs : ∀ a, ¬ S a → H a ≠ none → ¬ S' a) (h : Dct S H a ks vs) : Dct S' H' a ks vs :=
  ⟨hs _ h.1 (by rw [h.2.1]; simp), k _ _ h.1 h.2.1, h.2.2⟩
end
mutual
/-- no lambda within -/
def pl : PyData → Bool
  | .list xs => plAll xs
  | .tuple xs => plAll xs
  | .dict _ => false
  | _ => true
def plAll : List PyData → Bool
  | [] => true
  | x :: xs => pl x && plAll xs
end
mutual
inductive Dv (K : PySem.W.Frag) (H : Hp) (S : Addr → Prop) : V → PyData → Prop
  | non : Dv K H S .non .none
  | bl (b : Bool) : Dv K H S (.bl b) (.bool b)
  | int (i : Int) : Dv K H S (.int i) (.int i)
  | str (x : Str) : Dv K H S (.str x) (.str x)
  | lst {a : Addr} {xs : List V} {ds : List PyData} : SL K H S a xs → DvAll K H S xs ds → Dv K H S (.ref a) (.list ds)
  | tup {a : Addr} {xs : List V} {ds : List PyData} : ST K H S a xs → DvAll K H S xs ds → Dv K H S (.ref a) (.tuple ds)
  | clo {f : Addr} {i : Int} {vs : List V} {ds : List PyData} : Clo S H f i.toNat vs → DvAll K H S vs ds → Dv K H S (.ref f) (.dict [(.dict [], .tuple (.int i :: ds))])
  | exd {a d : Addr} {c : Str} {v : V} {x : PyData} : Exd K S H a d c v → Dv K H S v x → Dv K H S (.ref a) (.dict [(.str c, x)])
  | dct {a : Addr} {ks : List Str} {kd : PyData} {vs : List V} {ds : List PyData} : kd = .list (ks.map .str) → Dct S H a ks vs → DvAll K H S vs ds → Dv K H S (.ref a) (.dict [(.tuple [], .tuple (kd :: ds))])
  | fnc {f : Addr} {i : Int} {cl : List (Str × Addr)} {cd : PyData} : cd = .list (.int i :: cl.map (fun y => .int y.2)) → Fnc S H f i.toNat cl → Dv K H S (.ref f) (.dict [(.list [], cd)])
inductive DvAll (K : PySem.W.Frag) (H : Hp) (S : Addr → Prop) : List V → List PyData → Prop
  | nil : DvAll K H S [] []
  | cons {v : V} {vs : List V} {d : PyData} {ds : List PyData} : Dv K H S v d → DvAll K H S vs ds → DvAll K H S (v :: vs) (d :: ds)
end
section
variable {K : PySem.W.Frag} {H H' : Hp} {S S' : Addr → Prop}
mutual
theorem Dv.mono (k : ∀ a o, ¬ S a → H a = some o → Tk H H' a o) (hs : ∀ a, ¬ S a → H a ≠ none → ¬ S' a) : ∀ {v : V} (d : PyData), Dv K H S v d → Dv K H' S' v d
  | _, .none, .non => .non
  | _, .bool b, .bl _ => .bl b
  | _, .int i, .int _ => .int i
  | _, .str x, .str _ => .str x
  | _, .list ds, .lst hs1 hd => .lst (hs1.mono k hs) (DvAll.mono k hs ds hd)
  | _, .tuple ds, .tup hs1 hd => .tup (hs1.mono k hs) (DvAll.mono k hs ds hd)
  | _, .dict [(.dict [], .tuple (.int i :: ds))], .clo hs1 hd => .clo (hs1.mono k hs) (DvAll.mono k hs ds hd)
  | _, .dict [(.str c, x)], .exd h1 hd => .exd (h1.mono k hs) (Dv.mono k hs x hd)
  | _, .dict [(.tuple [], .tuple (kd :: ds))], .dct e h1 hd => .dct e (h1.mono k hs) (DvAll.mono k hs ds hd)
  | _, .dict [(.list [], cd)], .fnc e h1 => .fnc e (h1.mono k hs)
theorem DvAll.mono (k : ∀ a o, ¬ S a → H a = some o → Tk H H' a o) (hs : ∀ a, ¬ S a → H a ≠ none → ¬ S' a) : ∀ {vs : List V} (ds : List PyData), DvAll K H S vs ds → DvAll K H' S' vs ds
  | _, [], .nil => .nil
  | _, d :: ds, .cons h1 h2 => .cons (Dv.mono k hs d h1) (DvAll.mono k hs ds h2)
end
mutual
theorem Dv.dp : ∀ {v : V} (d : PyData), pl d = true → Dv K H S v d → Dp K H v d
  | _, .none, _, .non => .non
  | _, .bool b, _, .bl _ => .bl b
  | _, .int i, _, .int _ => .int i
  | _, .str x, _, .str _ => .str x
  | _, .list ds, p, .lst hs1 hd => .lst hs1.sq (DvAll.dp ds p hd)
  | _, .tuple ds, p, .tup hs1 hd => .tup hs1.sq (DvAll.dp ds p hd)
  | _, .dict _, p, _ => nomatch p
theorem DvAll.dp : ∀ {vs : List V} (ds : List PyData), plAll ds = true → DvAll K H S vs ds → DpAll K H vs ds
  | _, [], _, .nil => .nil
  | _, d :: ds, p, .cons h1 h2 => .cons (Dv.dp d (Bool.and_eq_true_iff.mp p).1 h1) (DvAll.dp ds (Bool.and_eq_true_iff.mp p).2 h2)
end
theorem Dv.dpl {v : V} {d : PyData} (h : Dv K H S v d) (p : pl d = true) : Dp K H v d := Dv.dp d p h
theorem DvAll.dpl {vs : List V} {ds : List PyData} (h : DvAll K H S vs ds) (p : plAll ds = true) : DpAll K H vs ds := DvAll.dp ds p h
theorem DvAll.length : ∀ {vs : List V} {ds : List PyData}, DvAll K H S vs ds → vs.length = ds.length
  | _, _, .nil => rfl
  | _, _, .cons _ h => congrArg (· + 1) h.length
theorem DvAll.get : ∀ {vs : List V} {ds : List PyData} {i : Nat} {d : PyData}, DvAll K H S vs ds → ds[i]? = some d → ∃ v, vs[i]? = some v ∧ Dv K H S v d
  | _, _, _, _, .nil, e => by simp at e
  | _, _, 0, _, .cons h _, e => by simp at e; subst e; exact ⟨_, rfl, h⟩
  | _, _, i + 1, d, .cons _ t, e => by
    obtain ⟨v, h1, h2⟩ := DvAll.get (i := i) (d := d) t (by simpa using e)
    exact ⟨v, by simpa using h1, h2⟩
theorem DvAll.getV : ∀ {vs : List V} {ds : List PyData} {i : Nat} {v : V}, DvAll K H S vs ds → vs[i]? = some v → ∃ d, ds[i]? = some d ∧ Dv K H S v d
  | _, _, _, _, .nil, e => by simp at e
  | _, _, 0, _, .cons h _, e => by simp at e; subst e; exact ⟨_, rfl, h⟩
  | _, _, i + 1, v, .cons _ t, e => by
    obtain ⟨d, h1, h2⟩ := DvAll.getV (i := i) (v := v) t (by simpa using e)
    exact ⟨d, by simpa using h1, h2⟩
theorem DvAll.append : ∀ {vs ws : List V} {ds es : List PyData}, DvAll K H S vs ds → DvAll K H S ws es → DvAll K H S (vs ++ ws) (ds ++ es)
  | _, _, _, _, .nil, h => h
  | _, _, _, _, .cons h1 h2, h => .cons h1 (h2.append h)
theorem DvAll.set {v : V} {d : PyData} (h : Dv K H S v d) : ∀ {vs : List V} {ds : List PyData} (i : Nat), DvAll K H S vs ds → DvAll K H S (vs.set i v) (ds.set i d)
  | _, _, _, .nil => .nil
  | _, _, 0, .cons _ t => .cons h t
  | _, _, i + 1, .cons q t => .cons q (DvAll.set h i t)
theorem DvAll.take : ∀ {vs : List V} {ds : List PyData} (n : Nat), DvAll K H S vs ds → DvAll K H S (vs.take n) (ds.take n)
  | _, _, 0, _ => .nil
  | _, _, _ + 1, .nil => .nil
  | _, _, n + 1, .cons r t => .cons r (DvAll.take n t)
theorem DvAll.drop : ∀ {vs : List V} {ds : List PyData} (n : Nat), DvAll K H S vs ds → DvAll K H S (vs.drop n) (ds.drop n)
  | _, _, 0, r => r
  | _, _, _ + 1, .nil => .nil
  | _, _, n + 1, .cons _ t => DvAll.drop n t
theorem DvAll.reverse : ∀ {vs : List V} {ds : List PyData}, DvAll K H S vs ds → DvAll K H S vs.reverse ds.reverse
  | _, _, .nil => .nil
  | _, _, .cons r t => by
    rw [List.reverse_cons, List.reverse_cons]
    exact t.reverse.append (.cons r .nil)
/-- what is tracked is kept -/
theorem Dv.same {v : V} {d : PyData} (h : Dv K H S v d) (e : Same H H') : Dv K H' S v d := Dv.mono (fun a o _ q => e a o q) (fun _ n _ => n) d h
theorem DvAll.same {vs : List V} {ds : List PyData} (h : DvAll K H S vs ds) (e : Same H H') : DvAll K H' S vs ds := DvAll.mono (fun a o _ q => e a o q) (fun _ n _ => n) ds h
/-- a smaller S -/
theorem Dv.less {v : V} {d : PyData} (h : Dv K H S v d) (e : ∀ a, S' a → S a) : Dv K H S' v d := Dv.mono (fun a o _ q => .refl q) (fun _ n _ z => n (e _ z)) d h
theorem DvAll.less {vs : List V} {ds : List PyData} (h : DvAll K H S vs ds) (e : ∀ a, S' a → S a) : DvAll K H S' vs ds := DvAll.mono (fun a o _ q => .refl q) (fun _ n _ z => n (e _ z)) ds h
end

/-! ### the frame: A what the caller may change, B the heap at the entry, O the own lists by their slots -/
abbrev Ow := Nat → Option Addr
def own (O : Ow) (a : Addr) : Prop := ∃ i, O i = some a
structure Cor (A : Addr → Prop) (B : Hp) (O : Ow) (H : Hp) : Prop where
  same : Same B H
  an' : ∀ a, A a → H a ≠ none
  ao' : ∀ a, A a → ¬ own O a
  ob : ∀ i a, O i = some a → B a = none
  oh : ∀ i a, O i = some a → H a ≠ none
  inj : ∀ i j a, O i = some a → O j = some a → i = j
  tabs : LamX.Tabs PD.tabs H
/-- what is off the own lists stands; new own lists are new -/
structure Step (O : Ow) (H : Hp) (O' : Ow) (H' : Hp) : Prop where
  keep : ∀ a o, ¬ own O a → H a = some o → Tk H H' a o
  old : ∀ a, own O' a → own O a ∨ H a = none
  grow : ∀ a, H a ≠ none → H' a ≠ none
theorem Step.refl {O : Ow} {H : Hp} : Step O H O H := ⟨fun _ _ _ e => .refl e, fun _ h => .inl h, fun _ h => h⟩
theorem Step.of_same {O : Ow} {H H' : Hp} (s : Same H H') : Step O H O H' := ⟨fun a o _ e => s a o e, fun _ h => .inl h, fun a h => by
  cases q : H a with
  | none => exact absurd q h
  | some o => exact (s a o q).some⟩
theorem Step.trans {O O1 O2 : Ow} {H H1 H2 : Hp} (a : Step O H O1 H1) (b : Step O1 H1 O2 H2) : Step O H O2 H2 := by
  refine ⟨fun x o hx e => ?_, fun x hx => ?_, fun x h => b.grow x (a.grow x h)⟩
  · refine (a.keep x o hx e).trans fun o' e' => b.keep x o' (fun z => ?_) e'
    rcases a.old x z with q | q
    · exact hx q
    · rw [e] at q; cases q
  · rcases b.old x hx with q | q
    · exact a.old x q
    · by_cases z : H x = none
      · exact .inr z
      · exact absurd q (a.grow x z)
def sset : Fl → (Addr → Prop) → Ow → Addr → Prop
  | .p, A, O => fun a => A a ∨ own O a
  | .t, A, _ => A
  | .b, _, O => own O
  | .x, _, _ => fun _ => False
  | .f, A, O => fun a => A a ∨ own O a
  | .o, A, _ => A
/-- what a value says -/
def VRel (K : PySem.W.Frag) (fl : Fl) (A : Addr → Prop) (B : Hp) (O : Ow) (H : Hp) (v : V) (x : PyData) : Prop := match fl with
  | .f => ∃ (a : Addr) (vs : List V) (xs : List PyData), v = .ref a ∧ x = .list xs ∧ H a = some (.lst vs) ∧ B a = none ∧ ¬ A a ∧ ¬ own O a ∧ DvAll K H (fun b => (A b ∨ own O b) ∨ b = a) vs xs
  | .o => ∃ (a : Addr) (vs : List V) (xs : List PyData), v = .ref a ∧ x = .list xs ∧ H a = some (.lst vs) ∧ own O a ∧ DvAll K H (sset .p A O) vs xs
  | fl => Dv K H (sset fl A O) v x
inductive VRels (K : PySem.W.Frag) (A : Addr → Prop) (B : Hp) (O : Ow) (H : Hp) : List Fl → List V → List PyData → Prop
  | nil : VRels K A B O H [] [] []
  | cons {fl : Fl} {fls : List Fl} {v : V} {vs : List V} {x : PyData} {xs : List PyData} : VRel K fl A B O H v x → VRels K A B O H fls vs xs → VRels K A B O H (fl :: fls) (v :: vs) (x :: xs)
def Fl.join (f g : Fl) : Fl := match f, g with
  | .x, _ => .x
  | _, .x => .x
  | .t, .b => .x
  | .b, .t => .x
  | .o, .b => .x
  | .b, .o => .x
  | .t, _ => .t
  | _, .t => .t
  | .o, _ => .t
  | _, .o => .t
  | .b, _ => .b
  | _, .b => .b
  | _, _ => .p
/-- what a list's, a tuple's items say -/
def Fl.el : Fl → Fl
  | .f => .p
  | .o => .p
  | z => z
def Fl.joins (fs : List Fl) : Fl := fs.foldr Fl.join .p
section
variable {K : PySem.W.Frag} {A : Addr → Prop} {B H H' : Hp} {O O' : Ow} {v : V} {x : PyData}
theorem Cor.an (c : Cor A B O H) {a : Addr} (h : H a = none) : ¬ A a := fun z => c.an' a z h
theorem Cor.on (c : Cor A B O H) {a : Addr} (h : H a = none) : ¬ own O a := fun ⟨i, z⟩ => c.oh i a z h
theorem Cor.bn (c : Cor A B O H) {a : Addr} (h : H a = none) : B a = none := by
  cases e : B a with
  | none => rfl
  | some o => exact absurd h (c.same a o e).some
theorem Cor.ao (c : Cor A B O H) {a : Addr} (h : own O a) : ¬ A a := fun z => c.ao' a z h
theorem same_some {H H' : Hp} (s : Same H H') {a : Addr} (h : H a ≠ none) : H' a ≠ none := by
  cases q : H a with
  | none => exact absurd q h
  | some o => exact (s a o q).some
theorem tabs_same {H H' : Hp} (s : Same H H') (t : LamX.Tabs PD.tabs H) : LamX.Tabs PD.tabs H' := fun p hp => by
  have h := t p hp
  obtain ⟨ps, e, _⟩ := t p hp
  exact (s _ _ e).2 _ hp h
theorem tabs_lst {T : List (Addr × Str)} {H : Hp} {D : Addr} {xs ys : List V} (h : H D = some (.lst xs)) (t : LamX.Tabs T H) : LamX.Tabs T (upd H D (.lst ys)) := fun p hp => tabS_lst h (t p hp)
theorem Cor.up (c : Cor A B O H) (s : Same H H') : Cor A B O H' := ⟨c.same.trans s, fun a z => same_some s (c.an' a z), c.ao', c.ob, fun i a e => same_some s (c.oh i a e), c.inj, tabs_same s c.tabs⟩
/-- a fresh list is as good as any -/
theorem VRel.fresh_p (c : Cor A B O H) (h : VRel K .f A B O H v x) : VRel K .p A B O H v x := by
  obtain ⟨a, vs, xs, rfl, rfl, e, hz, hb, ho, hd⟩ := h
  refine Dv.lst ⟨fun z => ?_, .inl e⟩ (hd.less fun b z => .inl z)
  rcases z with z | z
  · exact hb z
  · exact ho z
theorem VRel.dv (c : Cor A B O H) {fl : Fl} (h : VRel K fl A B O H v x) : Dv K H (sset fl A O) v x := by
  cases fl with
  | f => exact VRel.fresh_p c h
  | o =>
    obtain ⟨a, vs, xs, rfl, rfl, e, ho, hd⟩ := h
    exact Dv.lst ⟨c.ao ho, .inl e⟩ (hd.less fun a z => .inl z)
  | _ => exact h
/-- a flag that says no more than where the value's parts may stand -/
def Fl.bare (f : Fl) : Prop := f ≠ .f ∧ f ≠ .o
theorem VRel.of_dv {fl : Fl} (hf : fl.bare) (h : Dv K H (sset fl A O) v x) : VRel K fl A B O H v x := by
  cases fl with
  | f => exact absurd rfl hf.1
  | o => exact absurd rfl hf.2
  | _ => exact h
theorem el_bare (f : Fl) : f.el.bare := by cases f <;> exact ⟨by simp [Fl.el], by simp [Fl.el]⟩
/-- the items of a value that is a list or a tuple -/
theorem VRel.items (c : Cor A B O H) {fl : Fl} (h : VRel K fl A B O H v x) :
    (∀ xs, x = .list xs → ∃ a vs, v = .ref a ∧ SL K H (fun _ => False) a vs ∧ DvAll K H (sset fl.el A O) vs xs) ∧ (∀ xs, x = .tuple xs → ∃ a vs, v = .ref a ∧ ST K H (fun _ => False) a vs ∧ DvAll K H (sset fl.el A O) vs xs) := by
  cases fl with
  | f =>
    obtain ⟨a, vs, xs, rfl, rfl, e, hz, hb, ho, hd⟩ := h
    exact ⟨fun ys e1 => by cases e1; exact ⟨a, vs, rfl, ⟨fun z => z, .inl e⟩, hd.less fun b z => .inl z⟩, fun ys e1 => by cases e1⟩
  | o =>
    obtain ⟨a, vs, xs, rfl, rfl, e, ho, hd⟩ := h
    exact ⟨fun ys e1 => by cases e1; exact ⟨a, vs, rfl, ⟨fun z => z, .inl e⟩, hd⟩, fun ys e1 => by cases e1⟩
  | p => exact ⟨fun xs e => by subst e; cases h with | lst h1 h2 => exact ⟨_, _, rfl, h1.mono (fun _ _ _ q => .refl q) (fun _ _ _ z => z), h2⟩, fun xs e => by subst e; cases h with | tup h1 h2 => exact ⟨_, _, rfl, h1.mono (fun _ _ _ q => .refl q) (fun _ _ _ z => z), h2⟩⟩
  | t => exact ⟨fun xs e => by subst e; cases h with | lst h1 h2 => exact ⟨_, _, rfl, h1.mono (fun _ _ _ q => .refl q) (fun _ _ _ z => z), h2⟩, fun xs e => by subst e; cases h with | tup h1 h2 => exact ⟨_, _, rfl, h1.mono (fun _ _ _ q => .refl q) (fun _ _ _ z => z), h2⟩⟩
  | b => exact ⟨fun xs e => by subst e; cases h with | lst h1 h2 => exact ⟨_, _, rfl, h1.mono (fun _ _ _ q => .refl q) (fun _ _ _ z => z), h2⟩, fun xs e => by subst e; cases h with | tup h1 h2 => exact ⟨_, _, rfl, h1.mono (fun _ _ _ q => .refl q) (fun _ _ _ z => z), h2⟩⟩
  | x => exact ⟨fun xs e => by subst e; cases h with | lst h1 h2 => exact ⟨_, _, rfl, h1.mono (fun _ _ _ q => .refl q) (fun _ _ _ z => z), h2⟩, fun xs e => by subst e; cases h with | tup h1 h2 => exact ⟨_, _, rfl, h1.mono (fun _ _ _ q => .refl q) (fun _ _ _ z => z), h2⟩⟩
theorem VRel.same {fl : Fl} (h : VRel K fl A B O H v x) (s : Same H H') : VRel K fl A B O H' v x := by
  cases fl with
  | f =>
    obtain ⟨a, vs, xs, e1, e2, e, hz, hb, ho, hd⟩ := h
    exact ⟨a, vs, xs, e1, e2, s _ _ e, hz, hb, ho, hd.same s⟩
  | o =>
    obtain ⟨a, vs, xs, e1, e2, e, ho, hd⟩ := h
    exact ⟨a, vs, xs, e1, e2, s _ _ e, ho, hd.same s⟩
  | p => exact Dv.same h s
  | t => exact Dv.same h s
  | b => exact Dv.same h s
  | x => exact Dv.same h s
theorem VRel.any (c : Cor A B O H) {fl : Fl} (h : VRel K fl A B O H v x) : Dv K H (fun _ => False) v x := (h.dv c).less fun _ z => z.elim
theorem sset_join {f g : Fl} {a : Addr} (h : sset (f.join g) A O a) : sset f A O a ∧ sset g A O a := by
  cases f <;> cases g <;> simp_all [sset, Fl.join]
theorem join_nf (f g : Fl) : (f.join g).bare := by cases f <;> cases g <;> exact ⟨by simp [Fl.join], by simp [Fl.join]⟩
theorem VRel.joinl (c : Cor A B O H) {f g : Fl} (h : VRel K f A B O H v x) : VRel K (f.join g) A B O H v x := by
  refine VRel.of_dv (join_nf _ _) ((h.dv c).less fun a z => (sset_join z).1)
theorem VRel.joinr (c : Cor A B O H) {f g : Fl} (h : VRel K g A B O H v x) : VRel K (f.join g) A B O H v x := by
  refine VRel.of_dv (join_nf _ _) ((h.dv c).less fun a z => (sset_join z).2)
theorem joins_nf : ∀ fs : List Fl, (Fl.joins fs).bare
  | [] => ⟨by simp [Fl.joins], by simp [Fl.joins]⟩
  | f :: fs => join_nf _ _
theorem VRels.same {fls : List Fl} {vs : List V} {xs : List PyData} (h : VRels K A B O H fls vs xs) (s : Same H H') : VRels K A B O H' fls vs xs := by
  induction h with
  | nil => exact .nil
  | cons h1 _ ih => exact .cons (h1.same s) ih
theorem VRels.all (c : Cor A B O H) {fls : List Fl} {vs : List V} {xs : List PyData} (h : VRels K A B O H fls vs xs) : DvAll K H (sset (Fl.joins fls) A O) vs xs := by
  induction h with
  | nil => exact .nil
  | cons h1 _ ih => exact .cons ((h1.dv c).less fun a z => (sset_join z).1) (ih.less fun a z => (sset_join z).2)
theorem VRels.length {fls : List Fl} {vs : List V} {xs : List PyData} (h : VRels K A B O H fls vs xs) : vs.length = xs.length := by
  induction h with
  | nil => rfl
  | cons _ _ ih => exact congrArg (· + 1) ih
/-- what stands for good, and what the caller lent, outlives statements -/
theorem VRel.step {fl : Fl} (hf : fl = .p ∨ fl = .b) (h : VRel K fl A B O H v x) (s : Step O H O' H') : VRel K fl A B O' H' v x := by
  rcases hf with rfl | rfl
  · refine Dv.mono (S := sset .p A O) (S' := sset .p A O') (fun a o n e => s.keep a o (fun z => n (.inr z)) e) (fun a n hn z => ?_) x h
    rcases z with z | z
    · exact n (.inl z)
    · rcases s.old a z with q | q
      · exact n (.inr q)
      · exact hn q
  · refine Dv.mono (S := sset .b A O) (S' := sset .b A O') (fun a o n e => s.keep a o n e) (fun a n hn z => ?_) x h
    rcases s.old a z with q | q
    · exact n q
    · exact hn q
end
end PD
set_option maxHeartbeats 2000000
/-! PD 2: the frame's slots, what an expression comes to, the rules of expressions. -/
namespace PD
open PySem PySem.Spec PyProof.Rows L2

/-- what a slot says -/
def SlotR (K : PySem.W.Frag) (k : Kd) (A : Addr → Prop) (O : Ow) (H : Hp) (i : Nat) (v : V) (x : PyData) : Prop := match k with
  | .n => True
  | .d => Dv K H (sset .p A O) v x
  | .b => Dv K H (sset .b A O) v x
  | .o => ∃ (a : Addr) (vs : List V) (xs : List PyData), O i = some a ∧ v = .ref a ∧ x = .list xs ∧ H a = some (.lst vs) ∧ DvAll K H (sset .p A O) vs xs
structure Sim (K : PySem.W.Frag) (Γ : List Kd) (A : Addr → Prop) (B : Hp) (O : Ow) (H : Hp) (env : En) (σ : L2.St) : Prop where
  cor : Cor A B O H
  len : env.length = Γ.length
  lenS : σ.length = Γ.length
  slot : ∀ (i : Nat) (k : Kd), Γ[i]? = some k → k ≠ .n → ∃ v x, σ[i]? = some (some v) ∧ env[i]? = some x ∧ SlotR K k A O H i v x
  owns : ∀ (i : Nat) (a : Addr), O i = some a → Γ[i]? = some .o
theorem SlotR.same {K : PySem.W.Frag} {k : Kd} {A : Addr → Prop} {O : Ow} {H H' : Hp} {i : Nat} {v : V} {x : PyData} (h : SlotR K k A O H i v x) (s : Same H H') : SlotR K k A O H' i v x := by
  cases k with
  | n => trivial
  | d => exact Dv.same h s
  | b => exact Dv.same h s
  | o =>
    obtain ⟨a, vs, xs, h1, h2, h3, h4, h5⟩ := h
    exact ⟨a, vs, xs, h1, h2, h3, s _ _ h4, h5.same s⟩
theorem Sim.up {K : PySem.W.Frag} {Γ : List Kd} {A : Addr → Prop} {B : Hp} {O : Ow} {H H' : Hp} {env : En} {σ : L2.St} (m : Sim K Γ A B O H env σ) (s : Same H H') : Sim K Γ A B O H' env σ :=
  ⟨m.cor.up s, m.len, m.lenS, fun i k h n => by
    obtain ⟨v, x, h1, h2, h3⟩ := m.slot i k h n
    exact ⟨v, x, h1, h2, h3.same s⟩, m.owns⟩

/-- what is wanted where an own error leaves -/
def XOk (K : PySem.W.Frag) (A : Addr → Prop) (B : Hp) (E : XK) (c : Str) (x : PyData) : Prop :=
  ∀ (H' : Hp) (d : Addr) (v : V), Same B H' → B d = none → H' d = some (.xd [(("value" : Str), v)]) → Dv K H' A v x → E (.ref (He.ga K c)) (some d) H'
/-- an expression that comes to what m says, changing nothing -/
def tE (K : PySem.W.Frag) (Γ : List Kd) (A : Addr → Prop) (B : Hp) (E : XK) (fl : Fl) (m : ME) : TE := fun σ H Q => ∃ O env, Sim K Γ A B O H env σ ∧ match m env with
  | .ok x => ∀ v H', Same H H' → VRel K fl A B O H' v x → Q v H'
  | .exc c x => XOk K A B E c x
  | .bad => False
/-- a test -/
def tT (K : PySem.W.Frag) (Γ : List Kd) (A : Addr → Prop) (B : Hp) (E : XK) (m : En → Res Bool) : TT := fun σ H Q => ∃ O env, Sim K Γ A B O H env σ ∧ match m env with
  | .ok b => ∀ H', Same H H' → Q b H'
  | .exc c x => XOk K A B E c x
  | .bad => False
/-- arguments -/
def tL (K : PySem.W.Frag) (Γ : List Kd) (A : Addr → Prop) (B : Hp) (E : XK) (fls : List Fl) (m : ML) : TA := fun σ H Q => ∃ O env, Sim K Γ A B O H env σ ∧ match m env with
  | .ok xs => ∀ vs H', Same H H' → VRels K A B O H' fls vs xs → Q vs H'
  | .exc c x => XOk K A B E c x
  | .bad => False
/-- a display's items (stars within) -/
def tD (K : PySem.W.Frag) (Γ : List Kd) (A : Addr → Prop) (B : Hp) (E : XK) (fl : Fl) (m : ML) : TA := fun σ H Q => ∃ O env, Sim K Γ A B O H env σ ∧ match m env with
  | .ok xs => ∀ vs H', Same H H' → DvAll K H' (sset fl A O) vs xs → Q vs H'
  | .exc c x => XOk K A B E c x
  | .bad => False

/-! ### the functions -/
def mVar (i : Nat) : ME := fun env => .opt env[i]?
def mC (x : PyData) : ME := fun _ => .ok x
def mNil : ML := fun _ => .ok []
def mCons (m : ME) (r : ML) : ML := fun env => (m env).bind fun x => (r env).bind fun xs => .ok (x :: xs)
def seqOf : PyData → Option (List PyData)
  | .list xs => some xs
  | .tuple xs => some xs
  | _ => none
def mStar (m : ME) (r : ML) : ML := fun env => (m env).bind fun x => (Res.opt (seqOf x)).bind fun ys => (r env).bind fun xs => .ok (ys ++ xs)
def okLen (xs : List PyData) : Bool := Nat.ble xs.length 16777216
def mTup (m : ML) : ME := fun env => (m env).bind fun xs => match okLen xs with
  | true => .ok (.tuple xs)
  | false => .bad
def mLst (m : ML) : ME := fun env => (m env).bind fun xs => match okLen xs with
  | true => .ok (.list xs)
  | false => .bad
def mOp1 (f : PyData → Option PyData) (a : ME) : ME := fun env => (a env).bind fun x => .opt (f x)
def mOp2 (f : PyData → PyData → Option PyData) (a b : ME) : ME := fun env => (a env).bind fun x => (b env).bind fun y => .opt (f x y)
def mOpL (f : List PyData → Option PyData) (m : ML) : ME := fun env => (m env).bind fun xs => .opt (f xs)
def mIfE (c : En → Res Bool) (a b : ME) : ME := fun env => (c env).bind fun k => match k with
  | true => a env
  | false => b env
def mTest (a : ME) (f : PyData → Option Bool) : En → Res Bool := fun env => (a env).bind fun x => .opt (f x)
def mNotT (c : En → Res Bool) : En → Res Bool := fun env => (c env).bind fun k => .ok (!k)
def mAndT (c d : En → Res Bool) : En → Res Bool := fun env => (c env).bind fun k => match k with
  | true => d env
  | false => .ok false
def mOrT (c d : En → Res Bool) : En → Res Bool := fun env => (c env).bind fun k => match k with
  | true => .ok true
  | false => d env
def asB : PyData → Option Bool
  | .bool b => some b
  | _ => none
/-- a and b as a value, both truth values -/
def mAndV (a b : ME) : ME := fun env => (a env).bind fun x => (Res.opt (asB x)).bind fun k => match k with
  | true => b env
  | false => .ok (.bool false)
def mOrV (a b : ME) : ME := fun env => (a env).bind fun x => (Res.opt (asB x)).bind fun k => match k with
  | true => .ok (.bool true)
  | false => b env
/-- a op b op' c -/
def mChain (f g : PyData → PyData → Option PyData) (a b c : ME) : ME := fun env => (a env).bind fun x => (b env).bind fun y => (Res.opt (f x y)).bind fun z => (Res.opt (asB z)).bind fun k => match k with
  | true => (c env).bind fun w => .opt (g y w)
  | false => .ok (.bool false)

section
variable {X : Cx} {Γ : List Kd} {A : Addr → Prop} {B : Hp} {E : XK} {O : Ow} {H H' : Hp} {env : En} {σ : L2.St}

theorem bind_ok {α β : Type} {r : Res α} {f : α → Res β} {y : β} (h : r.bind f = .ok y) : ∃ x, r = .ok x ∧ f x = .ok y := by
  cases r with
  | ok a => exact ⟨a, rfl, h⟩
  | exc c x => cases h
  | bad => cases h

/-! ### names, constants -/
def flOf : Kd → Fl
  | .n => .x
  | .d => .p
  | .b => .b
  | .o => .o
theorem SlotR.val {K : PySem.W.Frag} {k : Kd} {i : Nat} {v : V} {x : PyData} (hk : k ≠ .n) (c : Cor A B O H) (h : SlotR K k A O H i v x) : VRel K (flOf k) A B O H v x := by
  cases k with
  | n => exact absurd rfl hk
  | d => exact h
  | b => exact h
  | o =>
    obtain ⟨a, vs, xs, h1, rfl, rfl, h4, h5⟩ := h
    exact ⟨a, vs, xs, rfl, rfl, h4, ⟨i, h1⟩, h5⟩
theorem j_var {i : Nat} {k : Kd} {e : Expr} (hk : k ≠ .n) (hΓ : Γ[i]? = some k) (h : PE X e (tVar i)) : PE X e (tE X.K Γ A B E (flOf k) (mVar i)) := by
  refine ⟨fun pins s σ H Q I ⟨O, env, m, q⟩ => h.run pins s σ H Q I ?_⟩
  obtain ⟨v, x, h1, h2, h3⟩ := m.slot i k hΓ hk
  have e1 : mVar i env = .ok x := by unfold mVar; rw [h2]; rfl
  rw [e1] at q
  exact ⟨v, h1, q v H (Same.refl H) (h3.val hk m.cor)⟩
theorem j_const {e : Expr} {v : V} {x : PyData} (h : PE X e (tC v)) (hv : Dv X.K (fun _ => none) (fun _ => True) v x) : PE X e (tE X.K Γ A B E .p (mC x)) := by
  refine ⟨fun pins s σ H Q I ⟨O, env, m, q⟩ => h.run pins s σ H Q I (q v H (Same.refl H) ?_)⟩
  exact Dv.mono (fun a o n => absurd trivial n) (fun a n => absurd trivial n) x hv

/-! ### items -/
theorem l_nil : PA X [] (tL X.K Γ A B E [] mNil) := ⟨fun pos pins s σ H Q I ⟨O, env, m, q⟩ => pa_nil.run pos pins s σ H Q I (q [] H (Same.refl H) .nil)⟩
theorem l_cons {e : Expr} {es : List Expr} {fl : Fl} {fls : List Fl} {a : ME} {r : ML} (ha : PE X e (tE X.K Γ A B E fl a)) (hr : PA X es (tL X.K Γ A B E fls r)) (hs : starEach (e :: es) X.env = (false, eval e X.env) :: starEach es X.env := by rfl) :
    PA X (e :: es) (tL X.K Γ A B E (fl :: fls) (mCons a r)) := by
  refine ⟨fun pos pins s σ H Q I ⟨O, env, m, q⟩ => (pa_cons ha hr hs).run pos pins s σ H Q I ?_⟩
  refine ⟨O, env, m, ?_⟩
  unfold mCons at q
  cases e1 : a env with
  | bad => rw [e1] at q; exact q
  | exc c x => rw [e1] at q; exact q
  | ok x =>
    rw [e1] at q
    intro v H1 s1 r1
    refine ⟨O, env, m.up s1, ?_⟩
    cases e2 : r env with
    | bad => simp only [Res.bind, e2] at q
    | exc c y => simp only [Res.bind, e2] at q; exact q
    | ok xs =>
      simp only [Res.bind, e2] at q
      exact fun vs H2 s2 r2 => q (v :: vs) H2 (s1.trans s2) (.cons (r1.same s2) r2)
theorem d_of_l {es : List Expr} {fls : List Fl} {r : ML} (h : PA X es (tL X.K Γ A B E fls r)) : PA X es (tD X.K Γ A B E (Fl.joins fls) r) := by
  refine ⟨fun pos pins s σ H Q I ⟨O, env, m, q⟩ => h.run pos pins s σ H Q I ⟨O, env, m, ?_⟩⟩
  cases e1 : r env with
  | bad => rw [e1] at q; exact q
  | exc c x => rw [e1] at q; exact q
  | ok xs =>
    rw [e1] at q
    exact fun vs H1 s1 r1 => q vs H1 s1 (r1.all (m.cor.up s1))
theorem d_nil : PA X [] (tD X.K Γ A B E .p mNil) := d_of_l l_nil
theorem d_cons {e : Expr} {es : List Expr} {fl fl2 : Fl} {a : ME} {r : ML} (ha : PE X e (tE X.K Γ A B E fl a)) (hr : PA X es (tD X.K Γ A B E fl2 r)) (hs : starEach (e :: es) X.env = (false, eval e X.env) :: starEach es X.env := by rfl) :
    PA X (e :: es) (tD X.K Γ A B E (fl.join fl2) (mCons a r)) := by
  refine ⟨fun pos pins s σ H Q I ⟨O, env, m, q⟩ => (pa_cons ha hr hs).run pos pins s σ H Q I ?_⟩
  refine ⟨O, env, m, ?_⟩
  unfold mCons at q
  cases e1 : a env with
  | bad => rw [e1] at q; exact q
  | exc c x => rw [e1] at q; exact q
  | ok x =>
    rw [e1] at q
    intro v H1 s1 r1
    refine ⟨O, env, m.up s1, ?_⟩
    cases e2 : r env with
    | bad => simp only [Res.bind, e2] at q
    | exc c y => simp only [Res.bind, e2] at q; exact q
    | ok xs =>
      simp only [Res.bind, e2] at q
      exact fun vs H2 s2 r2 => q (v :: vs) H2 (s1.trans s2) (.cons (((r1.same s2).dv (m.cor.up (s1.trans s2))).less fun a z => (sset_join z).1) (r2.less fun a z => (sset_join z).2))
/-- the items of data that is a list or a tuple -/
theorem seq_items {K : PySem.W.Frag} {S : Addr → Prop} {v : V} {x : PyData} {ys : List PyData} (h : Dv K H S v x) (e : seqOf x = some ys) : ∃ (a : Addr) (xs : List V), v = .ref a ∧ (SqT K H a xs ∨ SqL K H a xs) ∧ DvAll K H S xs ys := by
  cases h with
  | lst h1 h2 => cases e; exact ⟨_, _, rfl, .inr h1.sq, h2⟩
  | tup h1 h2 => cases e; exact ⟨_, _, rfl, .inl h1.sq, h2⟩
  | _ => cases e
theorem d_star {e : Expr} {es : List Expr} {fl fl2 : Fl} {a : ME} {r : ML} {p : Pos} (ha : PE X e (tE X.K Γ A B E fl a)) (hr : PA X es (tD X.K Γ A B E fl2 r)) (hs : starEach (.Starred e p :: es) X.env = (true, eval e X.env) :: starEach es X.env := by rfl) :
    PA X (.Starred e p :: es) (tD X.K Γ A B E (fl.join fl2) (mStar a r)) := by
  refine ⟨fun pos pins s σ H Q I ⟨O, env, m, q⟩ => (StX.pa_star ha hr hs).run pos pins s σ H Q I ?_⟩
  refine ⟨O, env, m, ?_⟩
  unfold mStar at q
  cases e1 : a env with
  | bad => rw [e1] at q; exact q
  | exc c x => rw [e1] at q; exact q
  | ok x =>
    rw [e1] at q
    intro v H1 s1 r1
    cases e3 : seqOf x with
    | none => simp only [Res.bind, Res.opt, e3] at q
    | some ys =>
      obtain ⟨b, xs, rfl, h1, h2⟩ := seq_items (r1.dv (m.cor.up s1)) e3
      refine ⟨b, xs, rfl, h1, O, env, m.up s1, ?_⟩
      cases e2 : r env with
      | bad => simp only [Res.bind, Res.opt, e2, e3] at q
      | exc c y => simp only [Res.bind, Res.opt, e2, e3] at q; exact q
      | ok zs =>
        simp only [Res.bind, Res.opt, e2, e3] at q
        exact fun vs H2 s2 r2 => q (xs ++ vs) H2 (s1.trans s2) (((h2.same s2).less fun a z => (sset_join z).1).append (r2.less fun a z => (sset_join z).2))
end
end PD
set_option maxHeartbeats 2000000
/-! PD 3: order, equality, sorting of data, as plain functions the kernel runs. -/
namespace PD
open PySem PySem.Spec PyProof.Rows PySem.W

/-! ### order -/
mutual
def ltD : PyData → PyData → Bool
  | .int i, .int j => decide (i < j)
  | .bool a, .bool b => !a && b
  | .str x, .str y => decide (x.cps.toList < y.cps.toList)
  | .list xs, .list ys => ltAll xs ys
  | .tuple xs, .tuple ys => ltAll xs ys
  | _, _ => false
def ltAll : List PyData → List PyData → Bool
  | [], _ :: _ => true
  | _, [] => false
  | x :: xs, y :: ys => match PyData.eqv x y with
    | true => ltAll xs ys
    | false => ltD x y
end
mutual
theorem ltD_eq : ∀ (x y : PyData), alike x y = true → ltD x y = dataLt x y
  | .int i, .int j, _ => by rw [ltD]; exact (dataLt_int i j).symm
  | .bool a, .bool b, _ => by rw [ltD, dataLt_bool]; cases a <;> cases b <;> rfl
  | .str x, .str y, _ => by rw [ltD]; exact (dataLt_str x y).symm
  | .list xs, .list ys, h => by
    rw [ltD, dataLt_list]
    exact ltAll_eq xs ys (by simpa [alike] using h)
  | .tuple xs, .tuple ys, h => by
    rw [ltD, dataLt_tuple]
    exact ltAll_eq xs ys (by simpa [alike] using h)
  | .none, .none, _ => by rfl
  | .none, .bool _, h => by simp [alike] at h
  | .none, .int _, h => by simp [alike] at h
  | .none, .str _, h => by simp [alike] at h
  | .none, .list _, h => by simp [alike] at h
  | .none, .tuple _, h => by simp [alike] at h
  | .none, .dict _, h => by simp [alike] at h
  | .bool _, .none, h => by simp [alike] at h
  | .bool _, .int _, h => by simp [alike] at h
  | .bool _, .str _, h => by simp [alike] at h
  | .bool _, .list _, h => by simp [alike] at h
  | .bool _, .tuple _, h => by simp [alike] at h
  | .bool _, .dict _, h => by simp [alike] at h
  | .int _, .none, h => by simp [alike] at h
  | .int _, .bool _, h => by simp [alike] at h
  | .int _, .str _, h => by simp [alike] at h
  | .int _, .list _, h => by simp [alike] at h
  | .int _, .tuple _, h => by simp [alike] at h
  | .int _, .dict _, h => by simp [alike] at h
  | .str _, .none, h => by simp [alike] at h
  | .str _, .bool _, h => by simp [alike] at h
  | .str _, .int _, h => by simp [alike] at h
  | .str _, .list _, h => by simp [alike] at h
  | .str _, .tuple _, h => by simp [alike] at h
  | .str _, .dict _, h => by simp [alike] at h
  | .list _, .none, h => by simp [alike] at h
  | .list _, .bool _, h => by simp [alike] at h
  | .list _, .int _, h => by simp [alike] at h
  | .list _, .str _, h => by simp [alike] at h
  | .list _, .tuple _, h => by simp [alike] at h
  | .list _, .dict _, h => by simp [alike] at h
  | .tuple _, .none, h => by simp [alike] at h
  | .tuple _, .bool _, h => by simp [alike] at h
  | .tuple _, .int _, h => by simp [alike] at h
  | .tuple _, .str _, h => by simp [alike] at h
  | .tuple _, .list _, h => by simp [alike] at h
  | .tuple _, .dict _, h => by simp [alike] at h
  | .dict _, _, h => by simp [alike] at h
theorem ltAll_eq : ∀ (xs ys : List PyData), alikeAll xs ys = true → ltAll xs ys = lexLt itemOrd (keyToksAll xs) (keyToksAll ys)
  | [], [], _ => by rw [ltAll]; rfl
  | [], y :: ys, _ => by rw [ltAll]; rfl
  | x :: xs, [], _ => by rw [ltAll]; rfl
  | x :: xs, y :: ys, h => by
    obtain ⟨h1, h2⟩ := alike_all_cons h
    rw [ltAll]
    cases e : PyData.eqv x y with
    | true => rw [dataLt_all_yes h1 e]; exact ltAll_eq xs ys h2
    | false => rw [dataLt_all_no h1 e]; exact ltD_eq x y h1
end

/-! ### sorting -/
def ins {α : Type} (le : α → α → Bool) (a : α) : List α → List α
  | [] => [a]
  | b :: bs => match le a b with
    | true => a :: b :: bs
    | false => b :: ins le a bs
def isort {α : Type} (le : α → α → Bool) (xs : List α) : List α := xs.foldr (ins le) []
theorem ins_mem {α : Type} (le : α → α → Bool) (a c : α) : ∀ xs : List α, c ∈ ins le a xs ↔ c = a ∨ c ∈ xs
  | [] => by simp [ins]
  | b :: bs => by
    unfold ins
    cases le a b with
    | true => simp
    | false => simp [ins_mem le a c bs]; constructor <;> rintro (h | h | h) <;> simp [h]
theorem isort_mem {α : Type} (le : α → α → Bool) (c : α) : ∀ xs : List α, c ∈ isort le xs ↔ c ∈ xs
  | [] => by simp [isort]
  | b :: bs => by
    show c ∈ ins le b (isort le bs) ↔ _
    rw [ins_mem, isort_mem le c bs]
    simp
theorem ins_filter {α : Type} {le : α → α → Bool} (h : TotalLe le) (a c : α) : ∀ xs : List α, (ins le a xs).filter (sameRank le c) = (a :: xs).filter (sameRank le c)
  | [] => rfl
  | b :: bs => by
    unfold ins
    cases e : le a b with
    | true => rfl
    | false =>
      show (b :: ins le a bs).filter _ = (a :: b :: bs).filter _
      have ih := ins_filter h a c bs
      rw [List.filter_cons, ih, List.filter_cons, List.filter_cons, List.filter_cons]
      by_cases ha : sameRank le c a = true
      · by_cases hb : sameRank le c b = true
        · exfalso
          have h1 : le a c = true := (Bool.and_eq_true_iff.mp ha).2
          have h2 : le c b = true := (Bool.and_eq_true_iff.mp hb).1
          rw [h.trans _ _ _ h1 h2] at e
          cases e
        · simp only [if_pos ha, if_neg hb]
      · simp only [if_neg ha]
theorem isort_filter {α : Type} {le : α → α → Bool} (h : TotalLe le) (c : α) : ∀ xs : List α, (isort le xs).filter (sameRank le c) = xs.filter (sameRank le c)
  | [] => rfl
  | b :: bs => by
    show (ins le b (isort le bs)).filter _ = _
    rw [ins_filter h, List.filter_cons, List.filter_cons, isort_filter h c bs]
theorem ins_sorted {α : Type} {le : α → α → Bool} (h : TotalLe le) (a : α) : ∀ xs : List α, xs.Pairwise (fun a b => le a b = true) → (ins le a xs).Pairwise (fun a b => le a b = true)
  | [], _ => by simp [ins]
  | b :: bs, p => by
    unfold ins
    cases e : le a b with
    | true =>
      refine List.Pairwise.cons (fun c hc => ?_) p
      rcases List.mem_cons.mp hc with rfl | hc
      · exact e
      · exact h.trans _ _ _ e ((List.pairwise_cons.mp p).1 c hc)
    | false =>
      refine List.Pairwise.cons (fun c hc => ?_) (ins_sorted h a bs (List.pairwise_cons.mp p).2)
      rcases (ins_mem le a c bs).mp hc with rfl | hc
      · rcases h.total c b with q | q
        · rw [e] at q; cases q
        · exact q
      · exact (List.pairwise_cons.mp p).1 c hc
theorem isort_sorted {α : Type} {le : α → α → Bool} (h : TotalLe le) : ∀ xs : List α, (isort le xs).Pairwise (fun a b => le a b = true)
  | [] => List.Pairwise.nil
  | b :: bs => ins_sorted h b _ (isort_sorted h bs)
theorem isort_eq {α : Type} {le : α → α → Bool} (h : TotalLe le) (xs : List α) : isort le xs = xs.mergeSort le := sort_unique h (isort_sorted h xs) fun c => isort_filter h c xs
theorem ins_congr {α : Type} {r s : α → α → Bool} {P : α → Prop} (h : ∀ a b, P a → P b → r a b = s a b) {a : α} (ha : P a) : ∀ xs : List α, (∀ b ∈ xs, P b) → ins r a xs = ins s a xs
  | [], _ => rfl
  | b :: bs, hp => by
    unfold ins
    rw [h a b ha (hp b List.mem_cons_self), ins_congr h ha bs fun c hc => hp c (List.mem_cons_of_mem _ hc)]
theorem isort_congr {α : Type} {r s : α → α → Bool} {P : α → Prop} (h : ∀ a b, P a → P b → r a b = s a b) : ∀ xs : List α, (∀ b ∈ xs, P b) → isort r xs = isort s xs
  | [], _ => rfl
  | b :: bs, hp => by
    have e := isort_congr h bs fun c hc => hp c (List.mem_cons_of_mem _ hc)
    show ins r b (isort r bs) = ins s b (isort s bs)
    rw [e]
    exact ins_congr h (hp b List.mem_cons_self) _ fun c hc => hp c (List.mem_cons_of_mem _ ((isort_mem s c bs).mp hc))
/-- a <= b; the other way round -/
def leD (rev : Bool) (a b : PyData) : Bool := match rev with
  | true => !ltD a b
  | false => !ltD b a
theorem sort_data {β : Type} (rev : Bool) (k : β → PyData) (xs : List β) (h : ∀ a ∈ xs, ∀ b ∈ xs, alike (k a) (k b) = true) : isort (fun a b => leD rev (k a) (k b)) xs = xs.mergeSort (dataLe rev k) := by
  refine Eq.trans ?_ (isort_eq (le := dataLe rev k) (sortLe_total (listOrd itemOrd) rev fun b => keyToks (k b)) xs)
  refine isort_congr (P := fun a => a ∈ xs) (fun a b ha hb => ?_) xs fun b hb => hb
  have e1 := ltD_eq (k a) (k b) (h a ha b hb)
  have e2 := ltD_eq (k b) (k a) (h b hb a ha)
  cases rev with
  | true => show (!ltD (k a) (k b)) = _; rw [e1]; rfl
  | false => show (!ltD (k b) (k a)) = _; rw [e2]; rfl
/-! ### looks at data -/
/-- every two of them are alike, as the kernel sees it: all like the first, and like themselves -/
def allAlike : List PyData → Bool
  | [] => true
  | x :: xs => alike x x && (xs.all fun y => alike x y) && allAlike xs
theorem alike_of_all : ∀ {xs : List PyData}, allAlike xs = true → AllAlike xs
  | [], _, _, h, _, _ => by cases h
  | x :: xs, h, d, hd, d', hd' => by
    simp only [allAlike, Bool.and_eq_true, List.all_eq_true] at h
    rcases List.mem_cons.mp hd with e1 | e1
    · rcases List.mem_cons.mp hd' with e2 | e2
      · rw [e1, e2]; exact h.1.1
      · rw [e1]; exact h.1.2 _ e2
    · rcases List.mem_cons.mp hd' with e2 | e2
      · rw [alike_comm, e2]; exact h.1.2 _ e1
      · exact alike_of_all h.2 _ e1 _ e2
def sortable (xs : List PyData) : Bool := (xs.all fun d => match d with
  | .tuple (_ :: _) => true
  | _ => false) || xs.all fun d => match d with
  | .none => false
  | .tuple _ => false
  | _ => true
theorem sortable_ok {xs : List PyData} (h : sortable xs = true) : Sortable xs := by
  unfold sortable at h
  rcases Bool.or_eq_true_iff.mp h with h | h
  · refine .inl fun d hd => ?_
    have q := List.all_eq_true.mp h d hd
    cases d with
    | tuple ys => cases ys with
      | nil => cases q
      | cons y ys => exact ⟨_, _, rfl⟩
    | _ => cases q
  · refine .inr fun d hd => ?_
    have q := List.all_eq_true.mp h d hd
    cases d with
    | none => cases q
    | tuple ys => cases q
    | _ => exact ⟨(fun z => PyData.noConfusion z), fun _ z => PyData.noConfusion z⟩
mutual
/-- no deeper than n -/
def shal : Nat → PyData → Bool
  | 0, .list _ => false
  | 0, .tuple _ => false
  | n + 1, .list xs => shalAll n xs
  | n + 1, .tuple xs => shalAll n xs
  | _, .dict _ => false
  | _, _ => true
def shalAll : Nat → List PyData → Bool
  | _, [] => true
  | n, x :: xs => shal n x && shalAll n xs
end
mutual
theorem shal_ok : ∀ (n : Nat) (x : PyData), shal n x = true → x.depth ≤ n ∧ x.plain = true
  | _, .none, _ => by simp [PyData.depth, PyData.plain]
  | _, .bool _, _ => by simp [PyData.depth, PyData.plain]
  | _, .int _, _ => by simp [PyData.depth, PyData.plain]
  | _, .str _, _ => by simp [PyData.depth, PyData.plain]
  | 0, .list xs, h => by simp [shal] at h
  | 0, .tuple xs, h => by simp [shal] at h
  | n + 1, .list xs, h => by
    have q := shalAll_ok n xs (by simpa [shal] using h)
    simp only [PyData.depth, PyData.plain]
    exact ⟨Nat.succ_le_succ q.1, q.2⟩
  | n + 1, .tuple xs, h => by
    have q := shalAll_ok n xs (by simpa [shal] using h)
    simp only [PyData.depth, PyData.plain]
    exact ⟨Nat.succ_le_succ q.1, q.2⟩
  | 0, .dict _, h => by simp [shal] at h
  | _ + 1, .dict _, h => by simp [shal] at h
theorem shalAll_ok : ∀ (n : Nat) (xs : List PyData), shalAll n xs = true → PyData.depthAll xs ≤ n ∧ PyData.plainAll xs = true
  | _, [], _ => by simp [PyData.depthAll, PyData.plainAll]
  | n, x :: xs, h => by
    have h' : shal n x = true ∧ shalAll n xs = true := by simpa [shalAll] using h
    have q1 := shal_ok n x h'.1
    have q2 := shalAll_ok n xs h'.2
    simp only [PyData.depthAll, PyData.plainAll, q1.2, q2.2]
    exact ⟨Nat.max_le.mpr ⟨q1.1, q2.1⟩, rfl⟩
end
mutual
theorem shal_pl : ∀ (n : Nat) (x : PyData), shal n x = true → pl x = true
  | _, .none, _ => rfl
  | _, .bool _, _ => rfl
  | _, .int _, _ => rfl
  | _, .str _, _ => rfl
  | 0, .list xs, h => by simp [shal] at h
  | 0, .tuple xs, h => by simp [shal] at h
  | n + 1, .list xs, h => shalAll_pl n xs (by simpa [shal] using h)
  | n + 1, .tuple xs, h => shalAll_pl n xs (by simpa [shal] using h)
  | 0, .dict _, h => by simp [shal] at h
  | _ + 1, .dict _, h => by simp [shal] at h
theorem shalAll_pl : ∀ (n : Nat) (xs : List PyData), shalAll n xs = true → plAll xs = true
  | _, [], _ => rfl
  | n, x :: xs, h => by
    have h' : shal n x = true ∧ shalAll n xs = true := by simpa [shalAll] using h
    unfold plAll
    rw [shal_pl n x h'.1, shalAll_pl n xs h'.2]
    rfl
end
theorem plAll_mem {y : PyData} : ∀ {ys : List PyData}, plAll ys = true → y ∈ ys → pl y = true
  | z :: zs, h, hm => by
    unfold plAll at h
    obtain ⟨h1, h2⟩ := Bool.and_eq_true_iff.mp h
    rcases List.mem_cons.mp hm with e | e
    · rw [e]; exact h1
    · exact plAll_mem h2 e
/-- only of data without a lambda within, and not deep -/
def gd (f : PyData → PyData → Option PyData) (d e : PyData) : Option PyData := match shal 40 d && shal 40 e with
  | true => f d e
  | false => none
theorem gd_some {f : PyData → PyData → Option PyData} {d e z : PyData} (h : gd f d e = some z) : pl d = true ∧ pl e = true ∧ f d e = some z := by
  unfold gd at h
  split at h
  · rename_i q
    obtain ⟨q1, q2⟩ := Bool.and_eq_true_iff.mp q
    exact ⟨shal_pl 40 d q1, shal_pl 40 e q2, h⟩
  · cases h
end PD
set_option maxHeartbeats 2000000
/-! PD 4: operators. -/
namespace PD
open PySem PySem.Spec PyProof.Rows L2 PySem.W

/-! ### from data to the library's reads -/
mutual
theorem dp_plain {K : PySem.W.Frag} {H : Hp} : ∀ {v : V} (d : PyData), Dp K H v d → d.plain = true
  | _, .none, .non => by simp [PyData.plain]
  | _, .bool b, .bl _ => by simp [PyData.plain]
  | _, .int i, .int _ => by simp [PyData.plain]
  | _, .str x, .str _ => by simp [PyData.plain]
  | _, .list ds, .lst _ hd => by simp only [PyData.plain]; exact dpAll_plain ds hd
  | _, .tuple ds, .tup _ hd => by simp only [PyData.plain]; exact dpAll_plain ds hd
theorem dpAll_plain {K : PySem.W.Frag} {H : Hp} : ∀ {vs : List V} (ds : List PyData), DpAll K H vs ds → PyData.plainAll ds = true
  | _, [], .nil => by simp [PyData.plainAll]
  | _, d :: ds, .cons h1 h2 => by simp only [PyData.plainAll, dp_plain d h1, dpAll_plain ds h2, Bool.and_self]
end
theorem shal_min {d e : PyData} (h : (shal 40 e || shal 40 d) = true) : min d.depth e.depth ≤ 40 := by
  rcases Bool.or_eq_true_iff.mp h with h | h
  · exact Nat.le_trans (Nat.min_le_right _ _) (shal_ok 40 e h).1
  · exact Nat.le_trans (Nat.min_le_left _ _) (shal_ok 40 d h).1

/-- a scalar's value -/
def scv : PyData → Option V
  | .none => some .non
  | .bool b => some (.bl b)
  | .int i => some (.int i)
  | .str x => some (.str x)
  | _ => none
theorem scv_dv {K : PySem.W.Frag} {H : Hp} {S : Addr → Prop} {v : V} {z : PyData} (h : scv z = some v) : Dv K H S v z := by
  cases z with
  | none => cases h; exact .non
  | bool b => cases h; exact .bl b
  | int i => cases h; exact .int i
  | str x => cases h; exact .str x
  | _ => cases h
def rSc (K : PySem.W.Frag) (g : PyData → PyData → Option PyData) : R2 := fun x y H Q => ∃ d e z v, Dp K H x d ∧ Dp K H y e ∧ g d e = some z ∧ scv z = some v ∧ Q v H

/-! ### the functions -/
def fEq (d e : PyData) : Option PyData := match shal 40 e || shal 40 d with
  | true => some (.bool (PyData.eqv d e))
  | false => none
def fNe (d e : PyData) : Option PyData := match shal 40 e || shal 40 d with
  | true => some (.bool (!PyData.eqv d e))
  | false => none
/-- the two can be ordered -/
def ordOk (d e : PyData) : Bool := alike d e && (match d with
  | .none => false
  | _ => true) && (shal 40 e || shal 40 d)
def fLt (d e : PyData) : Option PyData := match ordOk d e with
  | true => some (.bool (ltD d e))
  | false => none
def fGt (d e : PyData) : Option PyData := match ordOk d e with
  | true => some (.bool (ltD e d))
  | false => none
def fLe (d e : PyData) : Option PyData := match ordOk d e with
  | true => some (.bool (!ltD e d))
  | false => none
def fGe (d e : PyData) : Option PyData := match ordOk d e with
  | true => some (.bool (!ltD d e))
  | false => none
def memD (d : PyData) (xs : List PyData) : Bool := xs.any fun y => PyData.eqv y d
def fIn (d e : PyData) : Option PyData := match shal 40 d, seqOf e with
  | true, some xs => some (.bool (memD d xs))
  | _, _ => none
def fNotIn (d e : PyData) : Option PyData := match shal 40 d, seqOf e with
  | true, some xs => some (.bool (!memD d xs))
  | _, _ => none
def isNonD : PyData → Bool
  | .none => true
  | _ => false
def fIsN (d : PyData) : Option PyData := some (.bool (isNonD d))
def fNotN (d : PyData) : Option PyData := some (.bool (!isNonD d))
def smallI (i : Int) : Bool := decide (-(18446744073709551616) < i) && decide (i < 18446744073709551616)
def fAdd : PyData → PyData → Option PyData
  | .int i, .int j => some (.int (i + j))
  | .str x, .str y => match Nat.ble (x.length + y.length) 16777216 with
    | true => some (.str (x ++ y))
    | false => none
  | .tuple xs, .tuple ys => match Nat.ble (xs.length + ys.length) 16777216 with
    | true => some (.tuple (xs ++ ys))
    | false => none
  | .list xs, .list ys => match Nat.ble (xs.length + ys.length) 16777216 with
    | true => some (.list (xs ++ ys))
    | false => none
  | _, _ => none
def fSub : PyData → PyData → Option PyData
  | .int i, .int j => some (.int (i - j))
  | _, _ => none
def mulOk (i j : Int) : Bool := smallI i || smallI j || Nat.blt (i.natAbs.log2 + j.natAbs.log2) 1000000
/-- k times over -/
def repL (xs : List PyData) : Nat → List PyData
  | 0 => []
  | n + 1 => xs ++ repL xs n
theorem repL_eq (xs : List PyData) : ∀ n : Nat, repL xs n = (List.replicate n xs).flatten
  | 0 => rfl
  | n + 1 => by rw [repL, repL_eq xs n, List.replicate_succ, List.flatten_cons]
def fMul : PyData → PyData → Option PyData
  | .int i, .int j => match mulOk i j with
    | true => some (.int (i * j))
    | false => none
  | .list xs, .int k => match smallI k && Nat.ble (xs.length * k.toNat) 1000000 && decide (-(9223372036854775808) ≤ k) && decide (k < 9223372036854775808) with
    | true => some (.list (repL xs k.toNat))
    | false => none
  | .tuple xs, .int k => match xs, decide (2 ≤ k) && decide (k ≤ 1000) && Nat.ble xs.length 1000 with
    | _ :: _, true => some (.tuple (repL xs k.toNat))
    | _, _ => none
  | _, _ => none
def fFdiv : PyData → PyData → Option PyData
  | .int i, .int j => match !decide (j = 0) && decide (j.natAbs < 1073741824) with
    | true => some (.int (i.fdiv j))
    | false => none
  | _, _ => none
def fMod : PyData → PyData → Option PyData
  | .int i, .int j => match decide (j = 0) with
    | true => none
    | false => some (.int (i.fmod j))
  | _, _ => none
def powN (i : Int) : Nat → Int
  | 0 => 1
  | n + 1 => powN i n * i
theorem powN_eq (i : Int) : ∀ n, powN i n = i ^ n
  | 0 => by rw [powN, Int.pow_zero]
  | n + 1 => by rw [powN, powN_eq i n, Int.pow_succ]
def fPow : PyData → PyData → Option PyData
  | .int i, .int j => match decide (0 ≤ j) && decide (((i.natAbs.log2 + 1 : Nat) : Int) * j ≤ 134217728) with
    | true => some (.int (powN i j.toNat))
    | false => none
  | _, _ => none
def fNeg : PyData → Option PyData
  | .int i => some (.int (-i))
  | _ => none

section
variable {X : Cx}
theorem room40 {d e : PyData} {n : Nat} (hu : X.A.units + 100 < cLine) (h : min d.depth e.depth ≤ 40) : X.A.units + min d.depth e.depth < cLine := by omega
theorem opS {f : Value → Value → Sem Value} {g : PyData → PyData → Option PyData}
    (h : ∀ (s : Shared) (a b : Value) (d e z : PyData) (as bs : List Addr) (u : Value) (Q : Value → Shared → Prop), Reads s.heap a d as → Reads s.heap b e bs → d.plain = true → e.plain = true → g d e = some z → (∃ v, scv z = some v ∧ RelV v u) → (∀ u', (∃ v, scv z = some v ∧ RelV v u') → Q u' s) → wpAny (model X.prog X.w) X.A (f a b) Q X.xe s) :
    OpR X f (rSc X.K g) := by
  intro pins s σ H x y v u Q I rx ry ⟨d, e, z, v2, hd, he, hg, hz, q⟩
  obtain ⟨as, r1⟩ := Dp.reads I d x v hd rx
  obtain ⟨bs, r2⟩ := Dp.reads I e y u he ry
  have hu : ∃ u2, RelV v2 u2 := by
    cases z with
    | none => cases hz; exact ⟨_, rfl⟩
    | bool b => cases hz; exact ⟨_, rfl⟩
    | int i => cases hz; exact ⟨.int i 0, 0, rfl⟩
    | str x => cases hz; exact ⟨.str x 0, 0, rfl⟩
    | _ => cases hz
  obtain ⟨u2, hu2⟩ := hu
  refine h s v u d e z as bs u2 _ r1 r2 (dp_plain d hd) (dp_plain e he) hg ⟨v2, hz, hu2⟩ fun u' ⟨v3, h3, r3⟩ => ?_
  rw [hz] at h3
  cases h3
  exact ⟨v2, H, I, r3, q⟩
/-- answers that are truth values -/
theorem opB {f : Value → Value → Sem Value} {g : PyData → PyData → Option PyData}
    (h : ∀ (s : Shared) (a b : Value) (d e z : PyData) (as bs : List Addr) (Q : Value → Shared → Prop), Reads s.heap a d as → Reads s.heap b e bs → d.plain = true → e.plain = true → g d e = some z → (∃ k, z = .bool k ∧ (Q (.bool k) s → wpAny (model X.prog X.w) X.A (f a b) Q X.xe s))) :
    OpR X f (rSc X.K g) := by
  refine opS fun s a b d e z as bs u Q r1 r2 p1 p2 hg _ hQ => ?_
  obtain ⟨k, rfl, hk⟩ := h s a b d e z as bs Q r1 r2 p1 p2 hg
  exact hk (hQ _ ⟨_, rfl, rfl⟩)
theorem o_eq (hu : X.A.units + 100 < cLine) : OpR X (compareOp .Eq) (rSc X.K fEq) := opB fun s a b d e z as bs Q r1 r2 p1 p2 hg => by
  unfold fEq at hg
  split at hg
  · cases hg
    exact ⟨_, rfl, fun h => SeqAt.eq_plain r1 r2 p1 p2 (by have := shal_min (d := d) (e := e) (by assumption); omega) h⟩
  · cases hg
theorem o_ne (hu : X.A.units + 100 < cLine) : OpR X (compareOp .NotEq) (rSc X.K fNe) := opB fun s a b d e z as bs Q r1 r2 p1 p2 hg => by
  unfold fNe at hg
  split at hg
  · cases hg
    exact ⟨_, rfl, fun h => SeqAt.ne_plain r1 r2 p1 p2 (by have := shal_min (d := d) (e := e) (by assumption); omega) h⟩
  · cases hg
theorem ordOk_ok {d e : PyData} (h : ordOk d e = true) : alike d e = true ∧ d ≠ .none ∧ min d.depth e.depth ≤ 40 := by
  unfold ordOk at h
  rw [Bool.and_eq_true, Bool.and_eq_true] at h
  refine ⟨h.1.1, ?_, shal_min h.2⟩
  rintro rfl
  exact absurd h.1.2 (by simp)
theorem o_lt (hu : X.A.units + 100 < cLine) : OpR X (compareOp .Lt) (rSc X.K fLt) := opB fun s a b d e z as bs Q r1 r2 p1 p2 hg => by
  unfold fLt at hg
  split at hg
  · cases hg
    obtain ⟨h1, h2, h3⟩ := ordOk_ok (by assumption)
    exact ⟨_, rfl, fun h => lt_data r1 r2 h1 h2 (by omega) (by rw [← ltD_eq d e h1]; exact h)⟩
  · cases hg
theorem o_gt (hu : X.A.units + 100 < cLine) : OpR X (compareOp .Gt) (rSc X.K fGt) := opB fun s a b d e z as bs Q r1 r2 p1 p2 hg => by
  unfold fGt at hg
  split at hg
  · cases hg
    obtain ⟨h1, h2, h3⟩ := ordOk_ok (by assumption)
    exact ⟨_, rfl, fun h => gt_data r1 r2 h1 h2 (by omega) (by rw [← ltD_eq e d (by rw [alike_comm]; exact h1)]; exact h)⟩
  · cases hg
theorem o_le (hu : X.A.units + 100 < cLine) : OpR X (compareOp .LtE) (rSc X.K fLe) := opB fun s a b d e z as bs Q r1 r2 p1 p2 hg => by
  unfold fLe at hg
  split at hg
  · cases hg
    obtain ⟨h1, h2, h3⟩ := ordOk_ok (by assumption)
    exact ⟨_, rfl, fun h => le_data r1 r2 h1 h2 (by omega) (by rw [← ltD_eq e d (by rw [alike_comm]; exact h1)]; exact h)⟩
  · cases hg
theorem o_ge (hu : X.A.units + 100 < cLine) : OpR X (compareOp .GtE) (rSc X.K fGe) := opB fun s a b d e z as bs Q r1 r2 p1 p2 hg => by
  unfold fGe at hg
  split at hg
  · cases hg
    obtain ⟨h1, h2, h3⟩ := ordOk_ok (by assumption)
    exact ⟨_, rfl, fun h => ge_data r1 r2 h1 h2 (by omega) (by rw [← ltD_eq d e h1]; exact h)⟩
  · cases hg
theorem o_in (hu : X.A.units + 100 < cLine) : OpR X (compareOp .In) (rSc X.K fIn) := opB fun s a b d e z as bs Q r1 r2 p1 p2 hg => by
  unfold fIn at hg
  split at hg
  · rename_i ys h1 h2
    cases hg
    have hd := (shal_ok 40 d h1).1
    refine ⟨_, rfl, fun h => ?_⟩
    cases e with
    | list zs =>
      cases h2
      exact SeqAt.in_list_data r2 r1 (by simpa [PyData.plain] using p2) p1 (by have : min (PyData.depthAll ys) d.depth ≤ d.depth := Nat.min_le_right _ _; omega) h
    | tuple zs =>
      cases h2
      exact SeqAt.in_tuple_data r2 r1 (by simpa [PyData.plain] using p2) p1 (by have : min (PyData.depthAll ys) d.depth ≤ d.depth := Nat.min_le_right _ _; omega) h
    | _ => cases h2
  · cases hg
theorem o_notIn (hu : X.A.units + 100 < cLine) : OpR X (compareOp .NotIn) (rSc X.K fNotIn) := opB fun s a b d e z as bs Q r1 r2 p1 p2 hg => by
  unfold fNotIn at hg
  split at hg
  · rename_i ys h1 h2
    cases hg
    have hd := (shal_ok 40 d h1).1
    refine ⟨_, rfl, fun h => ?_⟩
    cases e with
    | list zs =>
      cases h2
      exact SeqAt.notIn_list_data r2 r1 (by simpa [PyData.plain] using p2) p1 (by have : min (PyData.depthAll ys) d.depth ≤ d.depth := Nat.min_le_right _ _; omega) h
    | tuple zs =>
      cases h2
      exact SeqAt.notIn_tuple_data r2 r1 (by simpa [PyData.plain] using p2) p1 (by have : min (PyData.depthAll ys) d.depth ≤ d.depth := Nat.min_le_right _ _; omega) h
    | _ => cases h2
  · cases hg
theorem o_pow : OpR X (binaryOp .Pow) (rI (fun i j => 0 ≤ j ∧ (Builtin.Int.intBits i : Int) * j ≤ 2 ^ 27) fun i j => .int (i ^ j.toNat)) := opI fun _ _ _ _ _ _ _ hc q => PyProof.Rows.pow_int hc.1 hc.2 q
/-- lists, locked ones too -/
def rCatL : R2 := fun x y H Q => ∃ l b xs zs, x = .ref l ∧ y = .ref b ∧ Rd H l (.lst xs) ∧ Rd H b (.lst zs) ∧ xs.length + zs.length ≤ sizeLine ∧ ∀ p, H p = none → Q (.ref p) (upd H p (.lst (xs ++ zs)))
theorem o_catL : OpR X (binaryOp .Add) rCatL := by
  intro pins s σ H x y v u Q I rx ry h
  obtain ⟨l, b, xs, zs, rfl, rfl, hH, hB, hz, q⟩ := h
  cases rx
  cases ry
  obtain ⟨z, its, n, r, e⟩ := hH.ok I.hok
  obtain ⟨z2, its2, n2, r2, e2⟩ := hB.ok I.hok
  have hl := r.length
  have hl2 := r2.length
  refine PySem.P.add_list e e2 ?_ (by rw [List.size_toArray, List.size_toArray]; omega)
  have ea : its.toArray ++ its2.toArray = (its ++ its2).toArray := by simp
  rw [ea]
  exact ⟨.ref _, _, I.lnew (t' := s.toks) (r.append r2) (by rw [List.length_append]; omega), rfl, q _ I.fresh⟩
end
end PD
set_option maxHeartbeats 2000000
/-! PD 5: the rules of expressions: operators, tests, subscripts, slices. -/
namespace PD
open PySem PySem.Spec PyProof.Rows L2 PySem.W

/-- where an expression stands: room for k calls, not within an except suite, what an own error that leaves is wished -/
structure Cz (X : Cx) (E : XK) (k : Nat) : Prop where
  room : Room k X.A
  calm : X.calm = true
  pass : Passes (L2.CX X.prog X.w) X E
theorem Cz.hu {X : Cx} {E : XK} {k : Nat} (z : Cz X E k) : X.A.units + 100 < cLine := by
  have := z.room.un
  omega
theorem Cz.blk {X : Cx} {E : XK} {k : Nat} (z : Cz X E k) {s : Shared} {H : Hp} {scope : Scope} {cenv : PySem.Env} {fp : List Addr} : Cz (X.blk s H scope cenv fp) E0 k :=
  ⟨z.room, z.calm, passL⟩

def Op2 (K : PySem.W.Frag) (r : R2) (f : PyData → PyData → Option PyData) (fa fb fl : Fl) : Prop :=
  ∀ (A : Addr → Prop) (B H : Hp) (O : Ow) (v u : V) (x y z : PyData) (Q : VK), Cor A B O H → VRel K fa A B O H v x → VRel K fb A B O H u y → f x y = some z →
    (∀ v' H', Same H H' → VRel K fl A B O H' v' z → Q v' H') → r v u H Q
def Op1 (K : PySem.W.Frag) (r : V → Hp → VK → Prop) (f : PyData → Option PyData) (fa fl : Fl) : Prop :=
  ∀ (A : Addr → Prop) (B H : Hp) (O : Ow) (v : V) (x z : PyData) (Q : VK), Cor A B O H → VRel K fa A B O H v x → f x = some z →
    (∀ v' H', Same H H' → VRel K fl A B O H' v' z → Q v' H') → r v H Q
def OpL (K : PySem.W.Frag) (r : List V → Hp → VK → Prop) (f : List PyData → Option PyData) (fls : List Fl) (fl : Fl) : Prop :=
  ∀ (A : Addr → Prop) (B H : Hp) (O : Ow) (vs : List V) (xs : List PyData) (z : PyData) (Q : VK), Cor A B O H → VRels K A B O H fls vs xs → f xs = some z →
    (∀ v' H', Same H H' → VRel K fl A B O H' v' z → Q v' H') → r vs H Q

section
variable {X : Cx} {Γ : List Kd} {A : Addr → Prop} {B : Hp} {E : XK} {e : Expr}
theorem j_op2 {r : R2} {f : PyData → PyData → Option PyData} {fa fb fl : Fl} {a b : ME} (o : Op2 X.K r f fa fb fl) (h : PE X e (tOp r (tE X.K Γ A B E fa a) (tE X.K Γ A B E fb b))) : PE X e (tE X.K Γ A B E fl (mOp2 f a b)) := by
  refine ⟨fun pins s σ H Q I ⟨O, env, m, q⟩ => h.run pins s σ H Q I ?_⟩
  refine ⟨O, env, m, ?_⟩
  unfold mOp2 at q
  cases e1 : a env with
  | bad => rw [e1] at q; exact q
  | exc c x => rw [e1] at q; exact q
  | ok x =>
    rw [e1] at q
    intro v H1 s1 r1
    refine ⟨O, env, m.up s1, ?_⟩
    cases e2 : b env with
    | bad => simp only [Res.bind, e2] at q
    | exc c y => simp only [Res.bind, e2] at q; exact q
    | ok y =>
      intro u H2 s2 r2
      cases e3 : f x y with
      | none => simp only [Res.bind, e2, Res.opt, e3] at q
      | some z =>
        simp only [Res.bind, e2, Res.opt, e3] at q
        exact o A B H2 O v u x y z Q (m.cor.up (s1.trans s2)) (r1.same s2) r2 e3 fun v' H' s3 r3 => q v' H' ((s1.trans s2).trans s3) r3
theorem j_op1 {r : V → Hp → VK → Prop} {f : PyData → Option PyData} {fa fl : Fl} {a : ME} (o : Op1 X.K r f fa fl) (h : PE X e (tUn r (tE X.K Γ A B E fa a))) : PE X e (tE X.K Γ A B E fl (mOp1 f a)) := by
  refine ⟨fun pins s σ H Q I ⟨O, env, m, q⟩ => h.run pins s σ H Q I ?_⟩
  refine ⟨O, env, m, ?_⟩
  unfold mOp1 at q
  cases e1 : a env with
  | bad => rw [e1] at q; exact q
  | exc c x => rw [e1] at q; exact q
  | ok x =>
    rw [e1] at q
    intro v H1 s1 r1
    cases e3 : f x with
    | none => simp only [Res.bind, Res.opt, e3] at q
    | some z =>
      simp only [Res.bind, Res.opt, e3] at q
      exact o A B H1 O v x z Q (m.cor.up s1) r1 e3 fun v' H' s3 r3 => q v' H' (s1.trans s3) r3
theorem j_opL {r : List V → Hp → VK → Prop} {f : List PyData → Option PyData} {fls : List Fl} {fl : Fl} {a : ML} (o : OpL X.K r f fls fl) (h : PE X e (tCB r (tL X.K Γ A B E fls a))) : PE X e (tE X.K Γ A B E fl (mOpL f a)) := by
  refine ⟨fun pins s σ H Q I ⟨O, env, m, q⟩ => h.run pins s σ H Q I ?_⟩
  refine ⟨O, env, m, ?_⟩
  unfold mOpL at q
  cases e1 : a env with
  | bad => rw [e1] at q; exact q
  | exc c x => rw [e1] at q; exact q
  | ok xs =>
    rw [e1] at q
    intro vs H1 s1 r1
    cases e3 : f xs with
    | none => simp only [Res.bind, Res.opt, e3] at q
    | some z =>
      simp only [Res.bind, Res.opt, e3] at q
      exact o A B H1 O vs xs z Q (m.cor.up s1) r1 e3 fun v' H' s3 r3 => q v' H' (s1.trans s3) r3

/-! ### displays -/
theorem laid_same {H : Hp} {p : Addr} {o : HO} (h : H p = none) : Same H (upd H p o) := fun b u q => by
  have k : ∀ b u, H b = some u → upd H p o b = some u := fun b u q => by rw [upd_ne (ne_of_none q h)]; exact q
  exact .of (k b u q) fun _ t => t.ext k
theorem j_tup {es : List Expr} {fl : Fl} {r : ML} {x1 : Nat} {pos : Pos} (hf : fl.bare) (h : PA X es (tD X.K Γ A B E fl r)) : PE X (.Tuple es x1 pos) (tE X.K Γ A B E fl (mTup r)) := by
  refine ⟨fun pins s σ H Q I ⟨O, env, m, q⟩ => (pe_tup h).run pins s σ H Q I ?_⟩
  refine ⟨O, env, m, ?_⟩
  unfold mTup at q
  cases e1 : r env with
  | bad => rw [e1] at q; exact q
  | exc c x => rw [e1] at q; exact q
  | ok xs =>
    rw [e1] at q
    intro vs H1 s1 r1
    cases e2 : okLen xs with
    | false => simp only [Res.bind, e2] at q
    | true =>
      simp only [Res.bind, e2] at q
      have hl : vs.length ≤ sizeLine := by
        have := Nat.le_of_ble_eq_true e2
        rw [r1.length, sizeLine_eq]; exact this
      refine ⟨hl, fun p hp => ?_⟩
      have c1 := m.cor.up s1
      refine q _ _ (s1.trans (laid_same hp)) (VRel.of_dv hf (Dv.tup (.inl ⟨?_, .inl upd_same⟩) (r1.same (laid_same hp))))
      cases fl with
      | p => exact fun z => z.elim (c1.an hp) (c1.on hp)
      | t => exact c1.an hp
      | b => exact c1.on hp
      | x => exact fun z => z
      | f => exact absurd rfl hf.1
      | o => exact absurd rfl hf.2
theorem j_lst {es : List Expr} {r : ML} {pos : Pos} (h : PA X es (tD X.K Γ A B E .p r)) : PE X (.List es pos) (tE X.K Γ A B E .f (mLst r)) := by
  refine ⟨fun pins s σ H Q I ⟨O, env, m, q⟩ => (pe_lst h).run pins s σ H Q I ?_⟩
  refine ⟨O, env, m, ?_⟩
  unfold mLst at q
  cases e1 : r env with
  | bad => rw [e1] at q; exact q
  | exc c x => rw [e1] at q; exact q
  | ok xs =>
    rw [e1] at q
    intro vs H1 s1 r1
    cases e2 : okLen xs with
    | false => simp only [Res.bind, e2] at q
    | true =>
      simp only [Res.bind, e2] at q
      have hl : vs.length ≤ sizeLine := by
        have := Nat.le_of_ble_eq_true e2
        rw [r1.length, sizeLine_eq]; exact this
      refine ⟨hl, fun p hp => ?_⟩
      have c1 := m.cor.up s1
      refine q _ _ (s1.trans (laid_same hp)) ⟨p, vs, xs, rfl, rfl, upd_same, c1.bn hp, c1.an hp, c1.on hp, ?_⟩
      refine DvAll.mono (S := sset .p A O) (fun a o n e => laid_same hp a o e) (fun a n hn z => ?_) xs r1
      rcases z with z | z
      · exact n z
      · exact hn (by rw [z]; exact hp)
/-- a fresh list taken for good -/
theorem j_fp {m : ME} (h : PE X e (tE X.K Γ A B E .f m)) : PE X e (tE X.K Γ A B E .p m) := by
  refine ⟨fun pins s σ H Q I ⟨O, env, si, q⟩ => h.run pins s σ H Q I ⟨O, env, si, ?_⟩⟩
  cases e1 : m env with
  | bad => rw [e1] at q; exact q
  | exc c x => rw [e1] at q; exact q
  | ok x => rw [e1] at q; exact fun v H1 s1 r1 => q v H1 s1 (r1.fresh_p (si.cor.up s1))
theorem j_weak {m : ME} {f g : Fl} (hg : f.join g = g) (h : PE X e (tE X.K Γ A B E f m)) : PE X e (tE X.K Γ A B E g m) := by
  refine ⟨fun pins s σ H Q I ⟨O, env, si, q⟩ => h.run pins s σ H Q I ⟨O, env, si, ?_⟩⟩
  cases e1 : m env with
  | bad => rw [e1] at q; exact q
  | exc c x => rw [e1] at q; exact q
  | ok x =>
    rw [e1] at q
    refine fun v H1 s1 r1 => q v H1 s1 ?_
    have w := VRel.joinl (g := g) (si.cor.up s1) r1
    rw [hg] at w
    exact w

/-! ### tests -/
theorem k_val {a : ME} (h : PE X e (tE X.K Γ A B E .p a)) (he : ∀ whole, isTrue e X.env whole = (do let v ← whole; standAt e.pos; holding [v] (truthy v)) := by intro _; rfl) : PT X e (tT X.K Γ A B E (mTest a asB)) := by
  refine ⟨fun pins s σ H Q I ⟨O, env, m, q⟩ => (pt_val h he).run pins s σ H Q I ?_⟩
  refine ⟨O, env, m, ?_⟩
  unfold mTest at q
  cases e1 : a env with
  | bad => rw [e1] at q; exact q
  | exc c x => rw [e1] at q; exact q
  | ok x =>
    rw [e1] at q
    intro v H1 s1 r1
    cases x with
    | bool b =>
      cases r1
      exact ⟨b, rfl, q H1 s1⟩
    | _ => exact q.elim
theorem k_not {p : Pos} {c : En → Res Bool} (h : PT X e (tT X.K Γ A B E c)) : PT X (.UnaryOp .Not e p) (tT X.K Γ A B E (mNotT c)) := by
  refine ⟨fun pins s σ H Q I ⟨O, env, m, q⟩ => (pt_not h).run pins s σ H Q I ?_⟩
  refine ⟨O, env, m, ?_⟩
  unfold mNotT at q
  cases e1 : c env with
  | bad => rw [e1] at q; exact q
  | exc c x => rw [e1] at q; exact q
  | ok k => rw [e1] at q; exact fun H1 s1 => q H1 s1
theorem k_and1 {p : Pos} {c : En → Res Bool} (h : PT X e (tT X.K Γ A B E c)) : PW X (.BoolOp .And [e] p) (tT X.K Γ A B E c) := pw_and1 h
theorem k_or1 {p : Pos} {c : En → Res Bool} (h : PT X e (tT X.K Γ A B E c)) : PW X (.BoolOp .Or [e] p) (tT X.K Γ A B E c) := pw_or1 h
theorem k_and {p : Pos} {c d : En → Res Bool} {b : Expr} {rest : List Expr} (h : PT X e (tT X.K Γ A B E c)) (h2 : PW X (.BoolOp .And (b :: rest) p) (tT X.K Γ A B E d)) : PW X (.BoolOp .And (e :: b :: rest) p) (tT X.K Γ A B E (mAndT c d)) := by
  refine ⟨fun wh pins s σ H Q I ⟨O, env, m, q⟩ => (pw_and h h2).run wh pins s σ H Q I ?_⟩
  refine ⟨O, env, m, ?_⟩
  unfold mAndT at q
  cases e1 : c env with
  | bad => rw [e1] at q; exact q
  | exc c x => rw [e1] at q; exact q
  | ok k =>
    rw [e1] at q
    intro H1 s1
    cases k with
    | false => exact q H1 s1
    | true =>
      refine ⟨O, env, m.up s1, ?_⟩
      cases e2 : d env with
      | bad => simp only [Res.bind, e2] at q
      | exc c x => simp only [Res.bind, e2] at q; exact q
      | ok k2 => simp only [Res.bind, e2] at q; exact fun H2 s2 => q H2 (s1.trans s2)
theorem k_or {p : Pos} {c d : En → Res Bool} {b : Expr} {rest : List Expr} (h : PT X e (tT X.K Γ A B E c)) (h2 : PW X (.BoolOp .Or (b :: rest) p) (tT X.K Γ A B E d)) : PW X (.BoolOp .Or (e :: b :: rest) p) (tT X.K Γ A B E (mOrT c d)) := by
  refine ⟨fun wh pins s σ H Q I ⟨O, env, m, q⟩ => (pw_or h h2).run wh pins s σ H Q I ?_⟩
  refine ⟨O, env, m, ?_⟩
  unfold mOrT at q
  cases e1 : c env with
  | bad => rw [e1] at q; exact q
  | exc c x => rw [e1] at q; exact q
  | ok k =>
    rw [e1] at q
    intro H1 s1
    cases k with
    | true => exact q H1 s1
    | false =>
      refine ⟨O, env, m.up s1, ?_⟩
      cases e2 : d env with
      | bad => simp only [Res.bind, e2] at q
      | exc c x => simp only [Res.bind, e2] at q; exact q
      | ok k2 => simp only [Res.bind, e2] at q; exact fun H2 s2 => q H2 (s1.trans s2)
/-! ### and, or, not as values; if as an expression -/
theorem j_and {p : Pos} {a d : ME} {fl : Fl} {b : Expr} {rest : List Expr} (h : PE X e (tE X.K Γ A B E .p a)) (h2 : PE X (.BoolOp .And (b :: rest) p) (tE X.K Γ A B E .p d)) : PE X (.BoolOp .And (e :: b :: rest) p) (tE X.K Γ A B E .p (mAndV a d)) := by
  refine ⟨fun pins s σ H Q I ⟨O, env, m, q⟩ => (pe_and h h2).run pins s σ H Q I ?_⟩
  refine ⟨O, env, m, ?_⟩
  unfold mAndV at q
  cases e1 : a env with
  | bad => rw [e1] at q; exact q
  | exc c x => rw [e1] at q; exact q
  | ok x =>
    rw [e1] at q
    intro v H1 s1 r1
    cases x with
    | bool k =>
      cases r1
      refine ⟨k, rfl, ?_⟩
      cases k with
      | false => exact q _ H1 s1 (.bl false)
      | true =>
        refine ⟨O, env, m.up s1, ?_⟩
        cases e2 : d env with
        | bad => simp only [Res.bind, Res.opt, asB, e2] at q
        | exc c x => simp only [Res.bind, Res.opt, asB, e2] at q; exact q
        | ok y => simp only [Res.bind, Res.opt, asB, e2] at q; exact fun u H2 s2 r2 => q u H2 (s1.trans s2) r2
    | _ => exact q.elim
theorem j_or {p : Pos} {a d : ME} {b : Expr} {rest : List Expr} (h : PE X e (tE X.K Γ A B E .p a)) (h2 : PE X (.BoolOp .Or (b :: rest) p) (tE X.K Γ A B E .p d)) : PE X (.BoolOp .Or (e :: b :: rest) p) (tE X.K Γ A B E .p (mOrV a d)) := by
  refine ⟨fun pins s σ H Q I ⟨O, env, m, q⟩ => (pe_or h h2).run pins s σ H Q I ?_⟩
  refine ⟨O, env, m, ?_⟩
  unfold mOrV at q
  cases e1 : a env with
  | bad => rw [e1] at q; exact q
  | exc c x => rw [e1] at q; exact q
  | ok x =>
    rw [e1] at q
    intro v H1 s1 r1
    cases x with
    | bool k =>
      cases r1
      refine ⟨k, rfl, ?_⟩
      cases k with
      | true => exact q _ H1 s1 (.bl true)
      | false =>
        refine ⟨O, env, m.up s1, ?_⟩
        cases e2 : d env with
        | bad => simp only [Res.bind, Res.opt, asB, e2] at q
        | exc c x => simp only [Res.bind, Res.opt, asB, e2] at q; exact q
        | ok y => simp only [Res.bind, Res.opt, asB, e2] at q; exact fun u H2 s2 r2 => q u H2 (s1.trans s2) r2
    | _ => exact q.elim
theorem j_one {op : BoolOp} {p : Pos} {t : TE} (h : PE X e t) : PE X (.BoolOp op [e] p) t := pe_one h
def fNot : PyData → Option PyData
  | .bool b => some (.bool (!b))
  | _ => none
theorem j_not {p : Pos} {a : ME} (h : PE X e (tE X.K Γ A B E .p a)) : PE X (.UnaryOp .Not e p) (tE X.K Γ A B E .p (mOp1 fNot a)) := by
  refine ⟨fun pins s σ H Q I ⟨O, env, m, q⟩ => (pe_not h).run pins s σ H Q I ?_⟩
  refine ⟨O, env, m, ?_⟩
  unfold mOp1 at q
  cases e1 : a env with
  | bad => rw [e1] at q; exact q
  | exc c x => rw [e1] at q; exact q
  | ok x =>
    rw [e1] at q
    intro v H1 s1 r1
    cases x with
    | bool k =>
      cases r1
      exact ⟨k, rfl, q _ H1 s1 (.bl _)⟩
    | _ => exact q.elim
theorem j_if {c : Expr} {p : Pos} {k : En → Res Bool} {a b : ME} {e2 : Expr} {fl : Fl} (hc : PT X c (tT X.K Γ A B E k)) (ha : PE X e (tE X.K Γ A B E fl a)) (hb : PE X e2 (tE X.K Γ A B E fl b)) : PE X (.IfExp c e e2 p) (tE X.K Γ A B E fl (mIfE k a b)) := by
  refine ⟨fun pins s σ H Q I ⟨O, env, m, q⟩ => (pe_ifExp hc ha hb).run pins s σ H Q I ?_⟩
  refine ⟨O, env, m, ?_⟩
  unfold mIfE at q
  cases e1 : k env with
  | bad => rw [e1] at q; exact q
  | exc c x => rw [e1] at q; exact q
  | ok b1 =>
    rw [e1] at q
    intro H1 s1
    cases b1 with
    | true =>
      refine ⟨O, env, m.up s1, ?_⟩
      cases e3 : a env with
      | bad => simp only [Res.bind, e3] at q
      | exc c x => simp only [Res.bind, e3] at q; exact q
      | ok y => simp only [Res.bind, e3] at q; exact fun u H2 s2 r2 => q u H2 (s1.trans s2) r2
    | false =>
      refine ⟨O, env, m.up s1, ?_⟩
      cases e3 : b env with
      | bad => simp only [Res.bind, e3] at q
      | exc c x => simp only [Res.bind, e3] at q; exact q
      | ok y => simp only [Res.bind, e3] at q; exact fun u H2 s2 r2 => q u H2 (s1.trans s2) r2

/-! ### operators -/
theorem op2_sc {K : PySem.W.Frag} {g : PyData → PyData → Option PyData} {fa fb : Fl} (hs : ∀ x y z, g x y = some z → ∃ v, scv z = some v) : Op2 K (rSc K g) (gd g) fa fb .p := by
  intro A B H O v u x y z Q c rx ry hg q
  obtain ⟨p1, p2, hg⟩ := gd_some hg
  obtain ⟨w, hw⟩ := hs x y z hg
  exact ⟨x, y, z, w, (rx.any c).dpl p1, (ry.any c).dpl p2, hg, hw, q w H (Same.refl H) (scv_dv hw)⟩
theorem hs_eq : ∀ x y z, fEq x y = some z → ∃ v, scv z = some v := fun x y z h => by unfold fEq at h; split at h <;> cases h; exact ⟨_, rfl⟩
theorem hs_ne : ∀ x y z, fNe x y = some z → ∃ v, scv z = some v := fun x y z h => by unfold fNe at h; split at h <;> cases h; exact ⟨_, rfl⟩
theorem hs_lt : ∀ x y z, fLt x y = some z → ∃ v, scv z = some v := fun x y z h => by unfold fLt at h; split at h <;> cases h; exact ⟨_, rfl⟩
theorem hs_gt : ∀ x y z, fGt x y = some z → ∃ v, scv z = some v := fun x y z h => by unfold fGt at h; split at h <;> cases h; exact ⟨_, rfl⟩
theorem hs_le : ∀ x y z, fLe x y = some z → ∃ v, scv z = some v := fun x y z h => by unfold fLe at h; split at h <;> cases h; exact ⟨_, rfl⟩
theorem hs_ge : ∀ x y z, fGe x y = some z → ∃ v, scv z = some v := fun x y z h => by unfold fGe at h; split at h <;> cases h; exact ⟨_, rfl⟩
theorem hs_in : ∀ x y z, fIn x y = some z → ∃ v, scv z = some v := fun x y z h => by unfold fIn at h; split at h <;> cases h; exact ⟨_, rfl⟩
theorem hs_notIn : ∀ x y z, fNotIn x y = some z → ∃ v, scv z = some v := fun x y z h => by unfold fNotIn at h; split at h <;> cases h; exact ⟨_, rfl⟩
end
end PD
set_option maxHeartbeats 2000000
/-! PD 6: operators by name, subscripts, slices. -/
namespace PD
open PySem PySem.Spec PyProof.Rows L2 PySem.W
section
variable {X : Cx} {Γ : List Kd} {A : Addr → Prop} {B : Hp} {E : XK} {a b : Expr} {fa fb : Fl} {ma mb : ME} {pos : Pos} {k : Nat}
/-! ### comparisons -/
theorem j_eq (z : Cz X E k) (ha : PE X a (tE X.K Γ A B E fa ma)) (hb : PE X b (tE X.K Γ A B E fb mb)) : PE X (.Compare a [.Eq] [b] pos) (tE X.K Γ A B E .p (mOp2 (gd fEq) ma mb)) := j_op2 (op2_sc hs_eq) (pe_cmpR (o_eq z.hu) ha hb (nomark _))
theorem j_ne (z : Cz X E k) (ha : PE X a (tE X.K Γ A B E fa ma)) (hb : PE X b (tE X.K Γ A B E fb mb)) : PE X (.Compare a [.NotEq] [b] pos) (tE X.K Γ A B E .p (mOp2 (gd fNe) ma mb)) := j_op2 (op2_sc hs_ne) (pe_cmpR (o_ne z.hu) ha hb (nomark _))
theorem j_lt (z : Cz X E k) (ha : PE X a (tE X.K Γ A B E fa ma)) (hb : PE X b (tE X.K Γ A B E fb mb)) : PE X (.Compare a [.Lt] [b] pos) (tE X.K Γ A B E .p (mOp2 (gd fLt) ma mb)) := j_op2 (op2_sc hs_lt) (pe_cmpR (o_lt z.hu) ha hb (nomark _))
theorem j_gt (z : Cz X E k) (ha : PE X a (tE X.K Γ A B E fa ma)) (hb : PE X b (tE X.K Γ A B E fb mb)) : PE X (.Compare a [.Gt] [b] pos) (tE X.K Γ A B E .p (mOp2 (gd fGt) ma mb)) := j_op2 (op2_sc hs_gt) (pe_cmpR (o_gt z.hu) ha hb (nomark _))
theorem j_le (z : Cz X E k) (ha : PE X a (tE X.K Γ A B E fa ma)) (hb : PE X b (tE X.K Γ A B E fb mb)) : PE X (.Compare a [.LtE] [b] pos) (tE X.K Γ A B E .p (mOp2 (gd fLe) ma mb)) := j_op2 (op2_sc hs_le) (pe_cmpR (o_le z.hu) ha hb (nomark _))
theorem j_ge (z : Cz X E k) (ha : PE X a (tE X.K Γ A B E fa ma)) (hb : PE X b (tE X.K Γ A B E fb mb)) : PE X (.Compare a [.GtE] [b] pos) (tE X.K Γ A B E .p (mOp2 (gd fGe) ma mb)) := j_op2 (op2_sc hs_ge) (pe_cmpR (o_ge z.hu) ha hb (nomark _))
theorem j_in (z : Cz X E k) (ha : PE X a (tE X.K Γ A B E fa ma)) (hb : PE X b (tE X.K Γ A B E fb mb)) (hm : behindInMarks .In b = false := by rfl) : PE X (.Compare a [.In] [b] pos) (tE X.K Γ A B E .p (mOp2 (gd fIn) ma mb)) := j_op2 (op2_sc hs_in) (pe_cmpR (o_in z.hu) ha hb hm)
theorem j_notIn (z : Cz X E k) (ha : PE X a (tE X.K Γ A B E fa ma)) (hb : PE X b (tE X.K Γ A B E fb mb)) (hm : behindInMarks .NotIn b = false := by rfl) : PE X (.Compare a [.NotIn] [b] pos) (tE X.K Γ A B E .p (mOp2 (gd fNotIn) ma mb)) := j_op2 (op2_sc hs_notIn) (pe_cmpR (o_notIn z.hu) ha hb hm)
theorem non_iff {K : PySem.W.Frag} {H : Hp} {S : Addr → Prop} {v : V} {x : PyData} (h : Dv K H S v x) : decide (v = .non) = isNonD x := by cases h <;> rfl
theorem j_isN {j : Nat} {p2 : Pos} (ha : PE X a (tE X.K Γ A B E fa ma)) : PE X (.Compare a [.Is] [.Constant .none j p2] pos) (tE X.K Γ A B E .p (mOp1 fIsN ma)) := by
  refine j_op1 (r := fun x H Q => Q (.bl (decide (x = .non))) H) ?_ (pe_cmp (pc_isN ha) rfl)
  intro A B H O v x z Q c r e q
  cases e
  rw [non_iff (r.any c)]
  exact q _ H (Same.refl H) (.bl _)
theorem j_notN {j : Nat} {p2 : Pos} (ha : PE X a (tE X.K Γ A B E fa ma)) : PE X (.Compare a [.IsNot] [.Constant .none j p2] pos) (tE X.K Γ A B E .p (mOp1 fNotN ma)) := by
  refine j_op1 (r := fun x H Q => Q (.bl (!decide (x = .non))) H) ?_ (pe_cmp (pc_notN ha) rfl)
  intro A B H O v x z Q c r e q
  cases e
  rw [non_iff (r.any c)]
  exact q _ H (Same.refl H) (.bl _)
def fIsB (d e : PyData) : Option PyData := match d, e with
  | .bool x, .bool y => some (.bool (x == y))
  | _, _ => none
def fNotB (d e : PyData) : Option PyData := match d, e with
  | .bool x, .bool y => some (.bool (!(x == y)))
  | _, _ => none
theorem dec_beq (x y : Bool) : decide (x = y) = (x == y) := by cases x <;> cases y <;> rfl
theorem j_isB (ha : PE X a (tE X.K Γ A B E fa ma)) (hb : PE X b (tE X.K Γ A B E fb mb)) : PE X (.Compare a [.Is] [b] pos) (tE X.K Γ A B E .p (mOp2 fIsB ma mb)) := by
  refine j_op2 ?_ (pe_cmpR op_isBl ha hb (nomark _))
  intro A B H O v u x y z Q c rx ry e q
  unfold fIsB at e
  split at e
  · cases e
    cases rx.any c
    cases ry.any c
    exact ⟨_, _, rfl, rfl, by rw [dec_beq]; exact q _ H (Same.refl H) (.bl _)⟩
  · cases e
theorem j_notB (ha : PE X a (tE X.K Γ A B E fa ma)) (hb : PE X b (tE X.K Γ A B E fb mb)) : PE X (.Compare a [.IsNot] [b] pos) (tE X.K Γ A B E .p (mOp2 fNotB ma mb)) := by
  refine j_op2 ?_ (pe_cmpR op_notBl ha hb (nomark _))
  intro A B H O v u x y z Q c rx ry e q
  unfold fNotB at e
  split at e
  · cases e
    cases rx.any c
    cases ry.any c
    exact ⟨_, _, rfl, rfl, by rw [dec_beq]; exact q _ H (Same.refl H) (.bl _)⟩
  · cases e
/-- the four orders and (in)equalities, in a chain -/
structure CmpOk (X : Cx) (op : CmpOp) (f : PyData → PyData → Option PyData) : Prop where
  rule : OpR X (compareOp op) (rSc X.K f)
  sc : ∀ x y z, f x y = some z → ∃ v, scv z = some v
theorem c_eq (z : Cz X E k) : CmpOk X .Eq fEq := ⟨o_eq z.hu, hs_eq⟩
theorem c_ne (z : Cz X E k) : CmpOk X .NotEq fNe := ⟨o_ne z.hu, hs_ne⟩
theorem c_lt (z : Cz X E k) : CmpOk X .Lt fLt := ⟨o_lt z.hu, hs_lt⟩
theorem c_le (z : Cz X E k) : CmpOk X .LtE fLe := ⟨o_le z.hu, hs_le⟩
theorem c_gt (z : Cz X E k) : CmpOk X .Gt fGt := ⟨o_gt z.hu, hs_gt⟩
theorem c_ge (z : Cz X E k) : CmpOk X .GtE fGe := ⟨o_ge z.hu, hs_ge⟩
theorem j_chain {op op' : CmpOp} {f g : PyData → PyData → Option PyData} {c : Expr} {fc : Fl} {mc : ME} (o : CmpOk X op f) (o' : CmpOk X op' g) (ha : PE X a (tE X.K Γ A B E fa ma)) (hb : PE X b (tE X.K Γ A B E fb mb)) (hc : PE X c (tE X.K Γ A B E fc mc))
    (hm : lastMarks [op, op'] [b, c] = false := by with_unfolding_all rfl) : PE X (.Compare a [op, op'] [b, c] pos) (tE X.K Γ A B E .p (mChain (gd f) (gd g) ma mb mc)) := by
  refine ⟨fun pins s σ H Q I ⟨O, env, m, q⟩ => (pe_chain o.rule o'.rule ha hb hc hm).run pins s σ H Q I ?_⟩
  refine ⟨O, env, m, ?_⟩
  unfold mChain at q
  cases e1 : ma env with
  | bad => rw [e1] at q; exact q
  | exc c x => rw [e1] at q; exact q
  | ok x =>
    rw [e1] at q
    intro v H1 s1 r1
    refine ⟨O, env, m.up s1, ?_⟩
    cases e2 : mb env with
    | bad => simp only [Res.bind, e2] at q
    | exc c y => simp only [Res.bind, e2] at q; exact q
    | ok y =>
      intro u H2 s2 r2
      cases e3 : gd f x y with
      | none => simp only [Res.bind, e2, Res.opt, e3] at q
      | some z =>
        simp only [Res.bind, e2, Res.opt, e3] at q
        obtain ⟨p1, p2, e3⟩ := gd_some e3
        obtain ⟨w, hw⟩ := o.sc x y z e3
        have c2 := m.cor.up (s1.trans s2)
        refine ⟨x, y, z, w, ((r1.same s2).any c2).dpl p1, (r2.any c2).dpl p2, e3, hw, ?_⟩
        cases z with
        | bool kk =>
          cases hw
          refine ⟨kk, rfl, ?_⟩
          cases kk with
          | false =>
            simp only [asB] at q
            exact q _ H2 (s1.trans s2) (.bl false)
          | true =>
            simp only [asB] at q
            refine ⟨O, env, m.up (s1.trans s2), ?_⟩
            cases e4 : mc env with
            | bad => simp only [e4] at q
            | exc c y => simp only [e4] at q; exact q
            | ok t =>
              intro u3 H3 s3 r3
              cases e5 : gd g y t with
              | none => simp only [e4, e5] at q
              | some z2 =>
                simp only [e4, e5] at q
                obtain ⟨p3, p4, e5⟩ := gd_some e5
                obtain ⟨w2, hw2⟩ := o'.sc y t z2 e5
                have c3 := m.cor.up ((s1.trans s2).trans s3)
                exact ⟨y, t, z2, w2, ((r2.same s3).any c3).dpl p3, (r3.any c3).dpl p4, e5, hw2, q w2 H3 ((s1.trans s2).trans s3) (scv_dv hw2)⟩
        | _ => simp only [asB] at q

/-! ### arithmetic -/
def rAddAll (K : PySem.W.Frag) : R2 := fun x y H Q => rI0 (fun i j => .int (i + j)) x y H Q ∨ ((∃ i j, x = .str i ∧ y = .str j ∧ i.length + j.length ≤ sizeLine ∧ Q (.str (i ++ j)) H) ∨ (rCatL x y H Q ∨ rCatA K x y H Q))
theorem o_add : OpR X (binaryOp .Add) (rAddAll X.K) := op_add.or (op_add_str.or (o_catL.or op_catA))
theorem len_ble {n : Nat} (h : Nat.ble n 16777216 = true) : n ≤ sizeLine := by rw [sizeLine_eq]; exact Nat.le_of_ble_eq_true h
theorem new_s {fl : Fl} {A : Addr → Prop} {B H : Hp} {O : Ow} (c : Cor A B O H) {p : Addr} (hp : H p = none) : ¬ sset fl A O p := by
  cases fl with
  | p => exact fun z => z.elim (c.an hp) (c.on hp)
  | t => exact c.an hp
  | b => exact c.on hp
  | x => exact fun z => z
  | f => exact fun z => z.elim (c.an hp) (c.on hp)
  | o => exact c.an hp
theorem op2_add {K : PySem.W.Frag} : Op2 K (rAddAll K) fAdd fa fb (fa.join fb) := by
  intro A B H O v u x y z Q c rx ry e q
  unfold fAdd at e
  split at e
  · cases e
    cases rx.any c
    cases ry.any c
    exact .inl ⟨_, _, rfl, rfl, q _ H (Same.refl H) (VRel.of_dv (join_nf _ _) (.int _))⟩
  · split at e
    · cases e
      cases rx.any c
      cases ry.any c
      exact .inr (.inl ⟨_, _, rfl, rfl, len_ble (by assumption), q _ H (Same.refl H) (VRel.of_dv (join_nf _ _) (.str _))⟩)
    · cases e
  · split at e
    · cases e
      rename_i xs ys hl
      have r1 := (VRel.joinl (g := fb) c rx).dv c
      have r2 := (VRel.joinr (f := fa) c ry).dv c
      have w1 := rx.dv c
      have w2 := ry.dv c
      cases w1 with
      | tup h1 d1 =>
        cases w2 with
        | tup h2 d2 =>
          cases r1 with
          | tup h1' d1' =>
            cases r2 with
            | tup h2' d2' =>
              rename_i vs _ us _ vs' us'
              refine .inr (.inr (.inr ⟨_, _, vs', us', rfl, rfl, h1'.sq, h2'.sq, ?_, fun e0 => ?_, fun n0 e0 => ?_, fun n0 n1 p hp => ?_⟩))
              · rw [d1'.length, d2'.length]
                exact len_ble hl
              · subst e0
                cases d1'
                exact q _ H (Same.refl H) (VRel.of_dv (join_nf _ _) (.tup h2' d2'))
              · subst e0
                cases d2'
                rw [List.append_nil] at q
                exact q _ H (Same.refl H) (VRel.of_dv (join_nf _ _) (.tup h1' d1'))
              · exact q _ _ (laid_same hp) (VRel.of_dv (join_nf _ _) (.tup (.inl ⟨new_s c hp, .inl upd_same⟩) ((d1'.append d2').same (laid_same hp))))
    · cases e
  · split at e
    · cases e
      rename_i xs ys hl
      have r1 := (VRel.joinl (g := fb) c rx).dv c
      have r2 := (VRel.joinr (f := fa) c ry).dv c
      cases r1 with
      | lst h1' d1' =>
        cases r2 with
        | lst h2' d2' =>
          refine .inr (.inr (.inl ⟨_, _, _, _, rfl, rfl, h1'.2, h2'.2, ?_, fun p hp => ?_⟩))
          · rw [d1'.length, d2'.length]
            exact len_ble hl
          · exact q _ _ (laid_same hp) (VRel.of_dv (join_nf _ _) (.lst ⟨new_s c hp, .inl upd_same⟩ ((d1'.append d2').same (laid_same hp))))
    · cases e
  · cases e
theorem j_add (ha : PE X a (tE X.K Γ A B E fa ma)) (hb : PE X b (tE X.K Γ A B E fb mb)) : PE X (.BinOp a .Add b pos) (tE X.K Γ A B E (fa.join fb) (mOp2 fAdd ma mb)) := j_op2 op2_add (pe_op o_add ha hb)
theorem j_sub (ha : PE X a (tE X.K Γ A B E fa ma)) (hb : PE X b (tE X.K Γ A B E fb mb)) : PE X (.BinOp a .Sub b pos) (tE X.K Γ A B E .p (mOp2 fSub ma mb)) := by
  refine j_op2 ?_ (pe_op op_sub ha hb)
  intro A B H O v u x y z Q c rx ry e q
  unfold fSub at e
  split at e
  · cases e
    cases rx.any c
    cases ry.any c
    exact ⟨_, _, rfl, rfl, q _ H (Same.refl H) (.int _)⟩
  · cases e
theorem smallI_ok {i : Int} (h : smallI i = true) : -(2 ^ 64) < i ∧ i < 2 ^ 64 := by
  unfold smallI at h
  rw [Bool.and_eq_true] at h
  have h1 := of_decide_eq_true h.1
  have h2 := of_decide_eq_true h.2
  exact ⟨by omega, by omega⟩
def rMulAll (K : PySem.W.Frag) : R2 := fun x y H Q => (rI CMul (fun i j => .int (i * j)) x y H Q ∨ rI CMulW (fun i j => .int (i * j)) x y H Q) ∨ (rRep x y H Q ∨ rRepT K x y H Q)
theorem o_mul : OpR X (binaryOp .Mult) (rMulAll X.K) := (op_mul.or op_mulW).or (op_rep.or op_repT)
theorem rep_dv {K : PySem.W.Frag} {H : Hp} {S : Addr → Prop} {vs : List V} {xs : List PyData} (h : DvAll K H S vs xs) : ∀ n : Nat, DvAll K H S (List.replicate n vs).flatten (repL xs n)
  | 0 => .nil
  | n + 1 => by
    rw [List.replicate_succ, List.flatten_cons]
    exact h.append (rep_dv h n)
theorem mul_ints {K : PySem.W.Frag} {i j : Int} {H : Hp} {Q : VK} (hm : mulOk i j = true) (q : Q (.int (i * j)) H) : rMulAll K (.int i) (.int j) H Q := by
  unfold mulOk at hm
  rw [Bool.or_eq_true, Bool.or_eq_true] at hm
  rcases hm with (h | h) | h
  · exact .inl (.inl ⟨_, _, rfl, rfl, .inl (smallI_ok h), q⟩)
  · exact .inl (.inl ⟨_, _, rfl, rfl, .inr (smallI_ok h), q⟩)
  · exact .inl (.inr ⟨_, _, rfl, rfl, Nat.le_of_ble_eq_true h, q⟩)
/-- int * int, tuple * int -/
def fMulT : PyData → PyData → Option PyData
  | .int i, .int j => fMul (.int i) (.int j)
  | .tuple xs, .int k => fMul (.tuple xs) (.int k)
  | _, _ => none
theorem op2_mul {K : PySem.W.Frag} : Op2 K (rMulAll K) fMulT fa fb (fa.join fb) := by
  intro A B H O v u x y z Q c rx ry e q
  unfold fMulT at e
  split at e
  · rename_i i j
    unfold fMul at e
    simp only at e
    split at e
    · rename_i hm
      cases e
      cases rx.any c
      cases ry.any c
      exact mul_ints hm (q _ H (Same.refl H) (VRel.of_dv (join_nf _ _) (.int _)))
    · cases e
  · rename_i xs k
    unfold fMul at e
    simp only at e
    split at e
    · rename_i t ts hm
      cases e
      cases ry.any c
      rw [Bool.and_eq_true, Bool.and_eq_true] at hm
      have r1 := (VRel.joinl (g := fb) c rx).dv c
      cases r1 with
      | tup h1 d1 =>
        rename_i a vs
        have hl := d1.length
        refine .inr (.inr ⟨a, k, vs, rfl, rfl, h1.sq, fun e0 => ?_, of_decide_eq_true hm.1.1, of_decide_eq_true hm.1.2, ?_, fun p hp => ?_⟩)
        · rw [e0] at hl; simp at hl
        · rw [hl]; exact Nat.le_of_ble_eq_true hm.2
        · exact q _ _ (laid_same hp) (VRel.of_dv (join_nf _ _) (.tup (.inl ⟨new_s c hp, .inl upd_same⟩) ((rep_dv d1 _).same (laid_same hp))))
    · cases e
  · cases e
theorem j_mul (ha : PE X a (tE X.K Γ A B E fa ma)) (hb : PE X b (tE X.K Γ A B E fb mb)) : PE X (.BinOp a .Mult b pos) (tE X.K Γ A B E (fa.join fb) (mOp2 fMulT ma mb)) := j_op2 op2_mul (pe_op o_mul ha hb)
/-- list * int, the list just made -/
def fMulL : PyData → PyData → Option PyData
  | .list xs, .int k => fMul (.list xs) (.int k)
  | _, _ => none
theorem op2_mulL {K : PySem.W.Frag} : Op2 K (rMulAll K) fMulL .f .p .f := by
  intro A B H O v u x y z Q c rx ry e q
  unfold fMulL at e
  split at e
  · rename_i xs k
    unfold fMul at e
    simp only at e
    split at e
    · rename_i hm
      cases e
      cases ry.any c
      obtain ⟨a, vs, ys, rfl, ey, ha, hz, hb, ho, hd⟩ := rx
      cases ey
      rw [Bool.and_eq_true, Bool.and_eq_true, Bool.and_eq_true] at hm
      have hl := hd.length
      have hle : xs.length * k.toNat ≤ 1000000 := Nat.le_of_ble_eq_true hm.1.1.2
      have h1 := of_decide_eq_true hm.1.2
      have h2 := of_decide_eq_true hm.2
      refine .inr (.inl ⟨a, k, vs, rfl, rfl, ha, by omega, by omega, ?_, fun p hp => ?_⟩)
      · rw [hl, sizeLine_eq]
        omega
      · refine q _ _ (laid_same hp) ⟨p, _, _, rfl, rfl, upd_same, c.bn hp, c.an hp, c.on hp, ?_⟩
        refine DvAll.mono (S := fun b => (A b ∨ own O b) ∨ b = a) (fun b o n w => laid_same hp b o w) (fun b n hn w => ?_) _ (rep_dv hd k.toNat)
        rcases w with w | w
        · exact n (.inl w)
        · exact hn (by rw [w]; exact hp)
    · cases e
  · cases e
theorem j_mulL (ha : PE X a (tE X.K Γ A B E .f ma)) (hb : PE X b (tE X.K Γ A B E .p mb)) : PE X (.BinOp a .Mult b pos) (tE X.K Γ A B E .f (mOp2 fMulL ma mb)) := j_op2 op2_mulL (pe_op o_mul ha hb)
theorem j_fdiv (ha : PE X a (tE X.K Γ A B E fa ma)) (hb : PE X b (tE X.K Γ A B E fb mb)) : PE X (.BinOp a .FloorDiv b pos) (tE X.K Γ A B E .p (mOp2 fFdiv ma mb)) := by
  refine j_op2 ?_ (pe_op op_fdivN ha hb)
  intro A B H O v u x y z Q c rx ry e q
  unfold fFdiv at e
  split at e
  · rename_i i j
    split at e
    · rename_i hm
      cases e
      cases rx.any c
      cases ry.any c
      rw [Bool.and_eq_true, Bool.not_eq_true', decide_eq_false_iff_not] at hm
      exact ⟨_, _, rfl, rfl, ⟨hm.1, of_decide_eq_true hm.2⟩, q _ H (Same.refl H) (.int _)⟩
    · cases e
  · cases e
theorem j_mod (ha : PE X a (tE X.K Γ A B E fa ma)) (hb : PE X b (tE X.K Γ A B E fb mb)) : PE X (.BinOp a .Mod b pos) (tE X.K Γ A B E .p (mOp2 fMod ma mb)) := by
  refine j_op2 ?_ (pe_op op_modN ha hb)
  intro A B H O v u x y z Q c rx ry e q
  unfold fMod at e
  split at e
  · rename_i i j
    split at e
    · cases e
    · rename_i hm
      cases e
      cases rx.any c
      cases ry.any c
      exact ⟨_, _, rfl, rfl, of_decide_eq_false hm, q _ H (Same.refl H) (.int _)⟩
  · cases e
theorem j_pow (ha : PE X a (tE X.K Γ A B E fa ma)) (hb : PE X b (tE X.K Γ A B E fb mb)) : PE X (.BinOp a .Pow b pos) (tE X.K Γ A B E .p (mOp2 fPow ma mb)) := by
  refine j_op2 ?_ (pe_op o_pow ha hb)
  intro A B H O v u x y z Q c rx ry e q
  unfold fPow at e
  split at e
  · rename_i i j
    split at e
    · rename_i hm
      cases e
      cases rx.any c
      cases ry.any c
      rw [Bool.and_eq_true] at hm
      have h0 := of_decide_eq_true hm.1
      have h1 := of_decide_eq_true hm.2
      refine ⟨_, _, rfl, rfl, ⟨h0, ?_⟩, by show Q (.int (i ^ j.toNat)) H; rw [← powN_eq]; exact q _ H (Same.refl H) (.int _)⟩
      have hb : (Builtin.Int.intBits i : Int) ≤ ((i.natAbs.log2 + 1 : Nat) : Int) := by
        unfold Builtin.Int.intBits
        split <;> omega
      exact Int.le_trans (Int.mul_le_mul_of_nonneg_right hb h0) (by omega)
    · cases e
  · cases e
theorem j_neg (ha : PE X a (tE X.K Γ A B E fa ma)) : PE X (.UnaryOp .USub a pos) (tE X.K Γ A B E .p (mOp1 fNeg ma)) := by
  refine j_op1 ?_ (pe_un un_neg ha)
  intro A B H O v x z Q c rx e q
  unfold fNeg at e
  split at e
  · cases e
    cases rx.any c
    exact ⟨_, rfl, q _ H (Same.refl H) (.int _)⟩
  · cases e

/-! ### subscripts -/
def nth (xs : List PyData) (i : Int) : Option PyData := match i with
  | .ofNat n => xs[n]?
  | .negSucc n => match Nat.ble (n + 1) xs.length with
    | true => xs[xs.length - (n + 1)]?
    | false => none
theorem nth_at (xs : List PyData) (i : Int) : nth xs i = atI xs i := by
  cases i with
  | ofNat n =>
    unfold nth atI ixN
    simp only [Int.ofNat_eq_natCast]
    rw [if_pos (by omega)]
    by_cases h : n < xs.length
    · rw [if_pos (by omega)]; simp
    · rw [if_neg (by omega)]
      simp only [Option.bind]
      exact List.getElem?_eq_none (by omega)
  | negSucc n =>
    unfold nth atI ixN
    rw [if_neg (by omega)]
    cases h : Nat.ble (n + 1) xs.length with
    | true =>
      have h1 := Nat.le_of_ble_eq_true h
      rw [if_pos (by omega)]
      have e : (Int.negSucc n + (xs.length : Int)).toNat = xs.length - (n + 1) := by omega
      rw [e]
      simp only [h]
      rfl
    | false =>
      have h1 : ¬ n + 1 ≤ xs.length := fun q => by rw [Nat.ble_eq_true_of_le q] at h; cases h
      rw [if_neg (by omega)]
      simp only [h]
      rfl
def fIx (d e : PyData) : Option PyData := match d, e with
  | .list xs, .int i => nth xs i
  | .tuple xs, .int i => nth xs i
  | .str x, .int i => match Nat.ble x.length 16777216 with
    | true => (atI x.cps.toList i).map fun c => .str ⟨#[c]⟩
    | false => none
  | _, _ => none
theorem at_len {xs : List PyData} {vs : List V} {K : PySem.W.Frag} {H : Hp} {S : Addr → Prop} {i : Int} {z : PyData} (h : DvAll K H S vs xs) (e : nth xs i = some z) : ∃ v, atI vs i = some v ∧ Dv K H S v z := by
  rw [nth_at] at e
  unfold atI at e ⊢
  rw [h.length]
  cases q : ixN xs.length i with
  | none => rw [q] at e; cases e
  | some j =>
    rw [q] at e
    exact h.get e
theorem j_ix (ha : PE X a (tE X.K Γ A B E fa ma)) (hb : PE X b (tE X.K Γ A B E fb mb)) (hs : PlainIx b := by exact fun _ _ => rfl) : PE X (.Subscript a b pos) (tE X.K Γ A B E fa.el (mOp2 fIx ma mb)) := by
  refine j_op2 ?_ (pe_ix ix_seq ha hb hs)
  intro A B H O v u x y z Q c rx ry e q
  unfold fIx at e
  have w1 := rx.items c
  split at e
  · cases ry.any c
    obtain ⟨a1, vs, rfl, h1, d1⟩ := w1.1 _ rfl
    obtain ⟨v2, h2, h3⟩ := at_len d1 e
    exact .inl ⟨_, _, _, v2, rfl, rfl, h1.sq, h2, q v2 H (Same.refl H) (VRel.of_dv (el_bare _) h3)⟩
  · cases ry.any c
    obtain ⟨a1, vs, rfl, h1, d1⟩ := w1.2 _ rfl
    obtain ⟨v2, h2, h3⟩ := at_len d1 e
    exact .inr (.inl ⟨_, _, _, v2, rfl, rfl, h1.sq, h2, q v2 H (Same.refl H) (VRel.of_dv (el_bare _) h3)⟩)
  · cases ry.any c
    cases rx.any c
    split at e
    · rename_i x i _ hl
      cases q2 : atI x.cps.toList i with
      | none => rw [q2] at e; cases e
      | some ch =>
        rw [q2] at e
        cases e
        exact .inr (.inr ⟨_, _, ch, rfl, rfl, len_ble hl, q2, q _ H (Same.refl H) (VRel.of_dv (el_bare _) (.str _))⟩)
    · cases e
  · cases e
end
end PD
set_option maxHeartbeats 2000000
/-! PD 7: slices, calls of built-ins. -/
namespace PD
open PySem PySem.Spec PyProof.Rows L2 PySem.W

/-! ### the functions -/
def cutD (xs : List PyData) (lo hi : Option Int) : List PyData := (xs.drop (HT.sIx xs.length 0 lo)).take (HT.sIx xs.length xs.length hi - HT.sIx xs.length 0 lo)
def fSl (x : PyData) (lo hi : Option Int) : Option PyData := match x with
  | .list xs => some (.list (cutD xs lo hi))
  | .tuple xs => some (.tuple (cutD xs lo hi))
  | _ => none
abbrev MO := En → Res (Option Int)
def mNo : MO := fun _ => .ok none
def asI : PyData → Option Int
  | .int i => some i
  | _ => none
def mPart (m : ME) : MO := fun env => (m env).bind fun x => (Res.opt (asI x)).bind fun i => .ok (some i)
def mSl (a : ME) (l h : MO) : ME := fun env => (a env).bind fun x => (l env).bind fun lo => (h env).bind fun hi => .opt (fSl x lo hi)
def fRev : PyData → Option PyData
  | .list xs => some (.list xs.reverse)
  | _ => none
/-- all of them truth values -/
def boolsOf : List PyData → Option (List Bool)
  | [] => some []
  | .bool b :: xs => (boolsOf xs).map (b :: ·)
  | _ :: _ => none
def intsOf : List PyData → Option (List Int)
  | [] => some []
  | .int i :: xs => (intsOf xs).map (i :: ·)
  | _ :: _ => none
def sumI : List Int → Int
  | [] => 0
  | i :: is => i + sumI is
def fAll : List PyData → Option PyData
  | [.list xs] => (boolsOf xs).map fun bs => .bool (bs.all id)
  | _ => none
def fAny : List PyData → Option PyData
  | [.list xs] => (boolsOf xs).map fun bs => .bool (bs.any id)
  | _ => none
def fSum : List PyData → Option PyData
  | [.list xs] => (intsOf xs).map fun is => .int (sumI is)
  | _ => none
def fLen : List PyData → Option PyData
  | [.list xs] => some (.int xs.length)
  | [.tuple xs] => some (.int xs.length)
  | [.str x] => match Nat.ble x.length 16777216 with
    | true => some (.int x.length)
    | false => none
  | _ => none
/-- the first of the least; of the greatest -/
def leastD (x : PyData) : List PyData → PyData
  | [] => x
  | y :: ys => match ltD y x with
    | true => leastD y ys
    | false => leastD x ys
def mostD (x : PyData) : List PyData → PyData
  | [] => x
  | y :: ys => match ltD x y with
    | true => mostD y ys
    | false => mostD x ys
def fMin : List PyData → Option PyData
  | [.int i, .int j] => some (.int (if j < i then j else i))
  | [.list (x :: xs)] => match allAlike (x :: xs) && !isNonD x && shalAll 40 (x :: xs) with
    | true => some (leastD x xs)
    | false => none
  | _ => none
def fMax : List PyData → Option PyData
  | [.int i, .int j] => some (.int (if j > i then j else i))
  | [.list (x :: xs)] => match allAlike (x :: xs) && !isNonD x && shalAll 40 (x :: xs) with
    | true => some (mostD x xs)
    | false => none
  | _ => none
def fSorted (rev : Bool) : List PyData → Option PyData
  | [.list xs] => match allAlike xs && sortable xs && shalAll 40 xs with
    | true => some (.list (isort (leD rev) xs))
    | false => none
  | _ => none
def fList : List PyData → Option PyData
  | [.list xs] => some (.list xs)
  | [.tuple xs] => some (.list xs)
  | _ => none
def fTuple : List PyData → Option PyData
  | [.list xs] => some (.tuple xs)
  | [.tuple xs] => some (.tuple xs)
  | _ => none
def fAbs : List PyData → Option PyData
  | [.int i] => some (.int (if i < 0 then -i else i))
  | _ => none
def fInt : List PyData → Option PyData
  | [.int i] => some (.int i)
  | [.bool b] => some (.int (if b then 1 else 0))
  | _ => none

section
variable {K : PySem.W.Frag} {H : Hp} {S : Addr → Prop}
theorem bools_dv : ∀ {vs : List V} {xs : List PyData} {bs : List Bool}, DvAll K H S vs xs → boolsOf xs = some bs → vs = bs.map V.bl
  | _, _, _, .nil, e => by cases e; rfl
  | _, .bool b :: xs, bs, .cons h1 h2, e => by
    cases h1
    unfold boolsOf at e
    cases q : boolsOf xs with
    | none => rw [q] at e; cases e
    | some cs =>
      rw [q] at e
      cases e
      rw [bools_dv h2 q]
      rfl
  | _, .none :: _, _, .cons _ _, e => by cases e
  | _, .int _ :: _, _, .cons _ _, e => by cases e
  | _, .str _ :: _, _, .cons _ _, e => by cases e
  | _, .list _ :: _, _, .cons _ _, e => by cases e
  | _, .tuple _ :: _, _, .cons _ _, e => by cases e
  | _, .dict _ :: _, _, .cons _ _, e => by cases e
theorem ints_dv : ∀ {vs : List V} {xs : List PyData} {is : List Int}, DvAll K H S vs xs → intsOf xs = some is → vs = is.map V.int
  | _, _, _, .nil, e => by cases e; rfl
  | _, .int b :: xs, bs, .cons h1 h2, e => by
    cases h1
    unfold intsOf at e
    cases q : intsOf xs with
    | none => rw [q] at e; cases e
    | some cs =>
      rw [q] at e
      cases e
      rw [ints_dv h2 q]
      rfl
  | _, .none :: _, _, .cons _ _, e => by cases e
  | _, .bool _ :: _, _, .cons _ _, e => by cases e
  | _, .str _ :: _, _, .cons _ _, e => by cases e
  | _, .list _ :: _, _, .cons _ _, e => by cases e
  | _, .tuple _ :: _, _, .cons _ _, e => by cases e
  | _, .dict _ :: _, _, .cons _ _, e => by cases e
theorem sumI_eq : ∀ is : List Int, sumI is = is.sum
  | [] => rfl
  | i :: is => by rw [sumI, sumI_eq is, List.sum_cons]
theorem leastD_eq : ∀ (x : PyData) (xs : List PyData) (P : PyData → Prop), P x → (∀ y ∈ xs, P y) → (∀ a b, P a → P b → alike a b = true) → leastD x xs = minD x xs
  | x, [], _, _, _, _ => rfl
  | x, y :: ys, P, hx, hy, ha => by
    have py := hy y List.mem_cons_self
    have e := ltD_eq y x (ha _ _ py hx)
    unfold leastD minD
    rw [List.foldl_cons, ← e]
    cases q : ltD y x with
    | true => exact leastD_eq y ys P py (fun z hz => hy z (List.mem_cons_of_mem _ hz)) ha
    | false => exact leastD_eq x ys P hx (fun z hz => hy z (List.mem_cons_of_mem _ hz)) ha
theorem mostD_eq : ∀ (x : PyData) (xs : List PyData) (P : PyData → Prop), P x → (∀ y ∈ xs, P y) → (∀ a b, P a → P b → alike a b = true) → mostD x xs = maxD x xs
  | x, [], _, _, _, _ => rfl
  | x, y :: ys, P, hx, hy, ha => by
    have py := hy y List.mem_cons_self
    have e := ltD_eq x y (ha _ _ hx py)
    unfold mostD maxD
    rw [List.foldl_cons, ← e]
    cases q : ltD x y with
    | true => exact mostD_eq y ys P py (fun z hz => hy z (List.mem_cons_of_mem _ hz)) ha
    | false => exact mostD_eq x ys P hx (fun z hz => hy z (List.mem_cons_of_mem _ hz)) ha
end

/-! ### the calls, by data -/
section
variable {X : Cx}
/-- min, max of a list of alike data -/
def rMinD (K : PySem.W.Frag) : List V → Hp → VK → Prop := fun vs H Q => ∃ (a : Addr) (us : List V) (x : PyData) (xs : List PyData), vs = [V.ref a] ∧ SqL K H a us ∧ DpAll K H us (x :: xs) ∧ AlikeAll (x :: xs) ∧ PyData.depthAll (x :: xs) ≤ 40 ∧
  ∀ (i : Nat) (v : V), us[i]? = some v → (x :: xs)[i]? = some (minD x xs) → Q v H
def rMaxD (K : PySem.W.Frag) : List V → Hp → VK → Prop := fun vs H Q => ∃ (a : Addr) (us : List V) (x : PyData) (xs : List PyData), vs = [V.ref a] ∧ SqL K H a us ∧ DpAll K H us (x :: xs) ∧ AlikeAll (x :: xs) ∧ PyData.depthAll (x :: xs) ≤ 40 ∧
  ∀ (i : Nat) (v : V), us[i]? = some v → (x :: xs)[i]? = some (maxD x xs) → Q v H
theorem readsAll_pick {h : Heap} : ∀ {us : List Value} {xs : List PyData} {as : List Addr} {i : Nat} {u : Value}, ReadsAll h us xs as → us[i]? = some u → ∃ d bs, xs[i]? = some d ∧ Reads h u d bs
  | _, _, _, _, _, .nil, e => by simp at e
  | _, _, _, 0, _, .cons r _, e => by simp at e; subst e; exact ⟨_, _, rfl, r⟩
  | _, _, _, i + 1, u, .cons _ t, e => by
    obtain ⟨d, bs, h1, h2⟩ := readsAll_pick (i := i) (u := u) t (by simpa using e)
    exact ⟨d, bs, by simpa using h1, h2⟩
theorem o_minD (hc : X.calm = true) (hu : X.A.units + 100 < cLine) : CallR X (.builtin "min") (rMinD X.K) := by
  intro pins s σ H vs us Q I r h
  obtain ⟨a, ws, x, xs, rfl, hs, hd, hal, hdep, q⟩ := h
  obtain ⟨its, rv, hl, _⟩ := I.list hs
  rw [Vals.ref1 r]
  obtain ⟨as, hr⟩ := Dp.readsAll I (x :: xs) ws its hd rv
  refine min_list_data (I.ok.hd hc) hl.isList (by simpa using hr) hal (by omega) fun i v h' tk bs hv hr2 hk => ?_
  have hv' : its[i]? = some v := by simpa using hv
  obtain ⟨d, cs, h1, h2⟩ := readsAll_pick hr hv'
  obtain ⟨w, hw, rw1⟩ : ∃ w, ws[i]? = some w ∧ RelV w v := by
    have hi : i < ws.length := by rw [rv.length]; exact (List.getElem?_eq_some_iff.mp hv').1
    obtain ⟨u2, e2, r2⟩ := rv.get (List.getElem?_eq_getElem hi)
    rw [hv'] at e2
    cases e2
    exact ⟨_, List.getElem?_eq_getElem hi, r2⟩
  have hpl : d.plain = true := plain_mem (dpAll_plain _ hd) (List.mem_of_getElem? h1)
  have e := SeqAt.plain_unique d _ v _ _ hpl (reads_keeps hk h2) hr2
  exact ⟨w, H, I.kept hk, rw1, q i w hw (by rw [h1, e])⟩
theorem o_maxD (hc : X.calm = true) (hu : X.A.units + 100 < cLine) : CallR X (.builtin "max") (rMaxD X.K) := by
  intro pins s σ H vs us Q I r h
  obtain ⟨a, ws, x, xs, rfl, hs, hd, hal, hdep, q⟩ := h
  obtain ⟨its, rv, hl, _⟩ := I.list hs
  rw [Vals.ref1 r]
  obtain ⟨as, hr⟩ := Dp.readsAll I (x :: xs) ws its hd rv
  refine max_list_data (I.ok.hd hc) hl.isList (by simpa using hr) hal (by omega) fun i v h' tk bs hv hr2 hk => ?_
  have hv' : its[i]? = some v := by simpa using hv
  obtain ⟨d, cs, h1, h2⟩ := readsAll_pick hr hv'
  obtain ⟨w, hw, rw1⟩ : ∃ w, ws[i]? = some w ∧ RelV w v := by
    have hi : i < ws.length := by rw [rv.length]; exact (List.getElem?_eq_some_iff.mp hv').1
    obtain ⟨u2, e2, r2⟩ := rv.get (List.getElem?_eq_getElem hi)
    rw [hv'] at e2
    cases e2
    exact ⟨_, List.getElem?_eq_getElem hi, r2⟩
  have hpl : d.plain = true := plain_mem (dpAll_plain _ hd) (List.mem_of_getElem? h1)
  have e := SeqAt.plain_unique d _ v _ _ hpl (reads_keeps hk h2) hr2
  exact ⟨w, H, I.kept hk, rw1, q i w hw (by rw [h1, e])⟩
/-- sorted(xs) of alike data: a new list of the same items -/
def rSortD (K : PySem.W.Frag) : List V → Hp → VK → Prop := fun vs H Q => ∃ (a : Addr) (ws : List (V × PyData)), vs = [V.ref a] ∧ SqL K H a (ws.map (·.1)) ∧ (∀ p ∈ ws, Dp K H p.1 p.2) ∧ AllAlike (ws.map (·.2)) ∧ Sortable (ws.map (·.2)) ∧ PyData.depthAll (ws.map (·.2)) ≤ 40 ∧
  ∀ p, H p = none → Q (.ref p) (upd H p (.lst ((ws.mergeSort (dataLe false (·.2))).map (·.1))))
theorem depth_mem : ∀ {xs : List PyData} {d : PyData}, d ∈ xs → d.depth ≤ PyData.depthAll xs
  | x :: xs, d, h => by
    rw [PyData.depthAll]
    rcases List.mem_cons.mp h with rfl | h
    · exact Nat.le_max_left _ _
    · exact Nat.le_trans (depth_mem h) (Nat.le_max_right _ _)
theorem each_vals {α : Type} {f : α → V} : ∀ {ws : List α} {us : List Value}, Vals (ws.map f) us → EachIs (fun u w => RelV (f w) u) us ws
  | [], _, .nil => .nil
  | w :: ws, _, .cons r t => .cons r (each_vals t)
theorem vals_each {α : Type} {f : α → V} : ∀ {ws : List α} {us : List Value}, EachIs (fun u w => RelV (f w) u) us ws → Vals (ws.map f) us
  | [], _, .nil => .nil
  | w :: ws, _, .cons r t => .cons r (vals_each t)
theorem o_sortD (hu : X.A.units + 100 < cLine) : CallR X (.builtin "sorted") (rSortD X.K) := by
  intro pins s σ H vs us Q I r h
  obtain ⟨a, ws, rfl, hs, hd, hal, hso, hdep, q⟩ := h
  obtain ⟨its, rv, hl, hz⟩ := I.list hs
  rw [Vals.ref1 r]
  have hlen := rv.length
  rw [List.length_map] at hlen hz
  have e1 := each_vals rv
  have er : EachIs (fun (u : Value) (w : V × PyData) => ∃ as, Reads s.heap u w.2 as) its ws := (each_mem e1).mono fun u w ⟨r1, hm⟩ => Dp.reads I w.2 w.1 u (hd w hm) r1
  refine sorted_data (R := fun u (w : V × PyData) => RelV w.1 u) hl.isList e1 er hal hso hz (fun w hw => ?_) fun out hol eo => ?_
  · have := depth_mem (List.mem_map_of_mem (f := (·.2)) hw)
    omega
  · have hv := vals_each eo
    obtain ⟨ep, he'⟩ := PyProof.Rows.sortedAll_at s.heap its out.toArray
    have hle : ((ws.mergeSort (dataLe false (·.2))).map (·.1)).length ≤ sizeLine := by rw [hv.length, hol]; exact hz
    exact ⟨.ref _, upd H (s.heap.objs.size + 1) (.lst ((ws.mergeSort (dataLe false (·.2))).map (·.1))), I.laid (t' := s.toks) (fun _ _ => PyProof.Rows.sortedAll_old) (Nat.le_succ _) ⟨hle, out, ep, hv, he'⟩, rfl, q _ (I.hok.fresh (Nat.le_succ _))⟩
end
end PD
set_option maxHeartbeats 2000000
/-! PD 8: the rules of calls of built-ins, slices; what is left out. -/
namespace PD
open PySem PySem.Spec PyProof.Rows L2 PySem.W

def mBad : ME := fun _ => .bad
def mBadT : En → Res Bool := fun _ => .bad
section
variable {X : Cx} {Γ : List Kd} {A : Addr → Prop} {B : Hp} {E : XK} {k : Nat} {e a b : Expr} {fa fb fl : Fl} {ma mb : ME} {p pos : Pos}
/-- an expression of which nothing is said -/
theorem j_bad : PE X e (tE X.K Γ A B E fl mBad) := ⟨fun pins s σ H Q I ⟨O, env, m, q⟩ => q.elim⟩
theorem k_bad : PT X e (tT X.K Γ A B E mBadT) := ⟨fun pins s σ H Q I ⟨O, env, m, q⟩ => q.elim⟩

theorem list_arg {K : PySem.W.Frag} {H : Hp} {A : Addr → Prop} {B : Hp} {O : Ow} {vs : List V} {xs : List PyData} (c : Cor A B O H) (h : VRels K A B O H [fa] vs [.list xs]) : ∃ a us, vs = [.ref a] ∧ SL K H (fun _ => False) a us ∧ DvAll K H (sset fa.el A O) us xs := by
  cases h with
  | cons h1 h2 =>
    cases h2
    obtain ⟨a, us, rfl, q1, q2⟩ := (h1.items c).1 xs rfl
    exact ⟨a, us, rfl, q1, q2⟩
theorem tup_arg {K : PySem.W.Frag} {H : Hp} {A : Addr → Prop} {B : Hp} {O : Ow} {vs : List V} {xs : List PyData} (c : Cor A B O H) (h : VRels K A B O H [fa] vs [.tuple xs]) : ∃ a us, vs = [.ref a] ∧ ST K H (fun _ => False) a us ∧ DvAll K H (sset fa.el A O) us xs := by
  cases h with
  | cons h1 h2 =>
    cases h2
    obtain ⟨a, us, rfl, q1, q2⟩ := (h1.items c).2 xs rfl
    exact ⟨a, us, rfl, q1, q2⟩
theorem one_arg {K : PySem.W.Frag} {H : Hp} {A : Addr → Prop} {B : Hp} {O : Ow} {vs : List V} {x : PyData} (c : Cor A B O H) (h : VRels K A B O H [fa] vs [x]) : ∃ v, vs = [v] ∧ Dv K H (fun _ => False) v x := by
  cases h with
  | cons h1 h2 =>
    cases h2
    exact ⟨_, rfl, h1.any c⟩
theorem two_args {K : PySem.W.Frag} {H : Hp} {A : Addr → Prop} {B : Hp} {O : Ow} {vs : List V} {x y : PyData} (c : Cor A B O H) (h : VRels K A B O H [fa, fb] vs [x, y]) : ∃ v u, vs = [v, u] ∧ Dv K H (fun _ => False) v x ∧ Dv K H (fun _ => False) u y := by
  cases h with
  | cons h1 h2 =>
    cases h2 with
    | cons h3 h4 =>
      cases h4
      exact ⟨_, _, rfl, h1.any c, h3.any c⟩
theorem vrels_len {K : PySem.W.Frag} {H : Hp} {A : Addr → Prop} {B : Hp} {O : Ow} {fls : List Fl} {vs : List V} {xs : List PyData} (h : VRels K A B O H fls vs xs) : fls.length = xs.length := by
  induction h with
  | nil => rfl
  | cons _ _ ih => exact congrArg (· + 1) ih

/-! ### all, any, sum, len -/
theorem blt_of {x : Str} {v : Value} (h : bootBuiltins x = some v) : bootBuiltins x = some v := h
theorem bt_all : bootBuiltins "all" = some (.builtin "all") := by decide +kernel
theorem bt_any : bootBuiltins "any" = some (.builtin "any") := by decide +kernel
theorem bt_sum : bootBuiltins "sum" = some (.builtin "sum") := by decide +kernel
theorem bt_len : bootBuiltins "len" = some (.builtin "len") := by decide +kernel
theorem bt_min : bootBuiltins "min" = some (.builtin "min") := by decide +kernel
theorem bt_max : bootBuiltins "max" = some (.builtin "max") := by decide +kernel
theorem bt_abs : bootBuiltins "abs" = some (.builtin "abs") := by decide +kernel
theorem bt_sorted : bootBuiltins "sorted" = some (.builtin "sorted") := by decide +kernel
theorem bt_isinstance : bootBuiltins "isinstance" = some (.builtin "isinstance") := by decide +kernel
theorem bt_list : bootBuiltins "list" = some (.type "list") := by decide +kernel
theorem bt_tuple : bootBuiltins "tuple" = some (.type "tuple") := by decide +kernel
theorem bt_int : bootBuiltins "int" = some (.type "int") := by decide +kernel
theorem j_all (z : Cz X E k) (hm : X.mg "all" = none) (ha : PE X a (tE X.K Γ A B E fa ma)) (hg : Gl X "all" := by rfl) (hs : starEach [a] X.env = (false, eval a X.env) :: starEach [] X.env := by rfl) :
    PE X (.Call (.Name "all" p) [a] [] pos) (tE X.K Γ A B E .p (mOpL fAll (mCons ma mNil))) := by
  refine j_opL ?_ (pe_callB (cr_all z.calm) hg hm bt_all (l_cons ha l_nil hs) (he := hs))
  intro A B H O vs xs z Q c r e q
  unfold fAll at e
  split at e
  · rename_i ys
    cases e1 : boolsOf ys with
    | none => rw [e1] at e; cases e
    | some bs =>
      rw [e1] at e
      cases e
      obtain ⟨l, us, rfl, h1, h2⟩ := list_arg c r
      rw [bools_dv h2 e1] at h1
      exact ⟨l, bs, rfl, h1.sq, q _ H (Same.refl H) (.bl _)⟩
  · cases e
theorem j_any (z : Cz X E k) (hm : X.mg "any" = none) (ha : PE X a (tE X.K Γ A B E fa ma)) (hg : Gl X "any" := by rfl) (hs : starEach [a] X.env = (false, eval a X.env) :: starEach [] X.env := by rfl) :
    PE X (.Call (.Name "any" p) [a] [] pos) (tE X.K Γ A B E .p (mOpL fAny (mCons ma mNil))) := by
  refine j_opL ?_ (pe_callB (cr_any z.calm) hg hm bt_any (l_cons ha l_nil hs) (he := hs))
  intro A B H O vs xs z Q c r e q
  unfold fAny at e
  split at e
  · rename_i ys
    cases e1 : boolsOf ys with
    | none => rw [e1] at e; cases e
    | some bs =>
      rw [e1] at e
      cases e
      obtain ⟨l, us, rfl, h1, h2⟩ := list_arg c r
      rw [bools_dv h2 e1] at h1
      exact ⟨l, bs, rfl, h1.sq, q _ H (Same.refl H) (.bl _)⟩
  · cases e
theorem j_sum (z : Cz X E k) (hm : X.mg "sum" = none) (ha : PE X a (tE X.K Γ A B E fa ma)) (hg : Gl X "sum" := by rfl) (hs : starEach [a] X.env = (false, eval a X.env) :: starEach [] X.env := by rfl) :
    PE X (.Call (.Name "sum" p) [a] [] pos) (tE X.K Γ A B E .p (mOpL fSum (mCons ma mNil))) := by
  refine j_opL ?_ (pe_callB (cr_sum z.calm) hg hm bt_sum (l_cons ha l_nil hs) (he := hs))
  intro A B H O vs xs z Q c r e q
  unfold fSum at e
  split at e
  · rename_i ys
    cases e1 : intsOf ys with
    | none => rw [e1] at e; cases e
    | some bs =>
      rw [e1] at e
      cases e
      obtain ⟨l, us, rfl, h1, h2⟩ := list_arg c r
      rw [ints_dv h2 e1] at h1
      refine ⟨l, bs, rfl, h1.sq, ?_⟩
      rw [← sumI_eq]
      exact q _ H (Same.refl H) (.int _)
  · cases e
theorem j_len (z : Cz X E k) (hm : X.mg "len" = none) (ha : PE X a (tE X.K Γ A B E fa ma)) (hg : Gl X "len" := by rfl) (hs : starEach [a] X.env = (false, eval a X.env) :: starEach [] X.env := by rfl) :
    PE X (.Call (.Name "len" p) [a] [] pos) (tE X.K Γ A B E .p (mOpL fLen (mCons ma mNil))) := by
  refine j_opL ?_ (pe_callB (call_len_seq.or call_len_str) hg hm bt_len (l_cons ha l_nil hs) (he := hs))
  intro A B H O vs xs z Q c r e q
  unfold fLen at e
  split at e
  · cases e
    obtain ⟨l, us, rfl, h1, h2⟩ := list_arg c r
    refine .inl ⟨l, us, rfl, .inl h1.sq, ?_⟩
    rw [h2.length]
    exact q _ H (Same.refl H) (.int _)
  · cases e
    obtain ⟨l, us, rfl, h1, h2⟩ := tup_arg c r
    refine .inl ⟨l, us, rfl, .inr h1.sq, ?_⟩
    rw [h2.length]
    exact q _ H (Same.refl H) (.int _)
  · split at e
    · rename_i hl
      cases e
      obtain ⟨v, rfl, h⟩ := one_arg c r
      cases h
      exact .inr ⟨_, rfl, len_ble hl, q _ H (Same.refl H) (.int _)⟩
    · cases e
  · cases e
theorem j_abs (hm : X.mg "abs" = none) (ha : PE X a (tE X.K Γ A B E fa ma)) (hg : Gl X "abs" := by rfl) (hs : starEach [a] X.env = (false, eval a X.env) :: starEach [] X.env := by rfl) :
    PE X (.Call (.Name "abs" p) [a] [] pos) (tE X.K Γ A B E .p (mOpL fAbs (mCons ma mNil))) := by
  refine j_opL ?_ (pe_callB call_abs hg hm bt_abs (l_cons ha l_nil hs) (he := hs))
  intro A B H O vs xs z Q c r e q
  unfold fAbs at e
  split at e
  · cases e
    obtain ⟨v, rfl, h⟩ := one_arg c r
    cases h
    exact ⟨_, rfl, q _ H (Same.refl H) (.int _)⟩
  · cases e
theorem j_int (hm : X.mg "int" = none) (ha : PE X a (tE X.K Γ A B E fa ma)) (hg : Gl X "int" := by rfl) (hs : starEach [a] X.env = (false, eval a X.env) :: starEach [] X.env := by rfl) :
    PE X (.Call (.Name "int" p) [a] [] pos) (tE X.K Γ A B E .p (mOpL fInt (mCons ma mNil))) := by
  refine j_opL ?_ (pe_callTy call_int1 hg hm bt_int (l_cons ha l_nil hs) (he := hs))
  intro A B H O vs xs z Q c r e q
  unfold fInt at e
  split at e
  · cases e
    obtain ⟨v, rfl, h⟩ := one_arg c r
    cases h
    exact .inl ⟨_, rfl, q _ H (Same.refl H) (.int _)⟩
  · cases e
    obtain ⟨v, rfl, h⟩ := one_arg c r
    cases h
    exact .inr ⟨_, rfl, q _ H (Same.refl H) (.int _)⟩
  · cases e

/-! ### list, tuple, sorted, min, max -/
theorem j_list (hm : X.mg "list" = none) (ha : PE X a (tE X.K Γ A B E fa ma)) (hf : fa.el = .p) (hg : Gl X "list" := by rfl) (hs : starEach [a] X.env = (false, eval a X.env) :: starEach [] X.env := by rfl) :
    PE X (.Call (.Name "list" p) [a] [] pos) (tE X.K Γ A B E .f (mOpL fList (mCons ma mNil))) := by
  refine j_opL ?_ (pe_callTy call_list_of hg hm bt_list (l_cons ha l_nil hs) (he := hs))
  intro A B H O vs xs z Q c r e q
  have fin : ∀ {us : List V} {ys : List PyData} (l : Addr), DvAll X.K H (sset fa.el A O) us ys → H l = none → VRel X.K .f A B O (upd H l (.lst us)) (.ref l) (.list ys) := fun {us ys} l h2 hl => by
    rw [hf] at h2
    refine ⟨l, _, _, rfl, rfl, upd_same, c.bn hl, c.an hl, c.on hl, ?_⟩
    refine DvAll.mono (S := sset .p A O) (fun b o n w => laid_same hl b o w) (fun b n hn w => ?_) _ h2
    rcases w with w | w
    · exact n w
    · exact hn (by rw [w]; exact hl)
  unfold fList at e
  split at e
  · cases e
    obtain ⟨l, us, rfl, h1, h2⟩ := list_arg c r
    exact ⟨l, us, rfl, .inl h1.sq, fun l2 hl => q _ _ (laid_same hl) (fin l2 h2 hl)⟩
  · cases e
    obtain ⟨l, us, rfl, h1, h2⟩ := tup_arg c r
    exact ⟨l, us, rfl, .inr h1.sq, fun l2 hl => q _ _ (laid_same hl) (fin l2 h2 hl)⟩
  · cases e
/-- tuple(x): of a list; a tuple is itself -/
theorem j_tuple (hm : X.mg "tuple" = none) (ha : PE X a (tE X.K Γ A B E fa ma)) (hg : Gl X "tuple" := by rfl) (hs : starEach [a] X.env = (false, eval a X.env) :: starEach [] X.env := by rfl) :
    PE X (.Call (.Name "tuple" p) [a] [] pos) (tE X.K Γ A B E fa.el (mOpL fTuple (mCons ma mNil))) := by
  refine j_opL ?_ (pe_callTy call_tuple_of hg hm bt_tuple (l_cons ha l_nil hs) (he := hs))
  intro A B H O vs xs z Q c r e q
  unfold fTuple at e
  split at e
  · cases e
    obtain ⟨l, us, rfl, h1, h2⟩ := list_arg c r
    refine ⟨l, us, rfl, .inl ⟨h1.sq, fun l2 hl => q _ _ (laid_same hl) (VRel.of_dv (el_bare _) (.tup (.inl ⟨new_s c hl, .inl upd_same⟩) (h2.same (laid_same hl))))⟩⟩
  · cases e
    cases r with
    | cons r1 r2 =>
      cases r2
      have w := r1.dv c
      cases w with
      | tup h1 h2 =>
        refine ⟨_, _, rfl, .inr ⟨h1.sq, q _ H (Same.refl H) (VRel.of_dv (el_bare _) ?_)⟩⟩
        cases fa with
        | f => exact .tup h1 h2
        | o =>
          obtain ⟨_, _, _, _, e2, _⟩ := r1
          cases e2
        | _ => exact .tup h1 h2
  · cases e
theorem zip_fst {vs : List V} {xs : List PyData} (h : vs.length = xs.length) : (vs.zip xs).map (·.1) = vs := by
  rw [List.map_fst_zip (by omega)]
theorem zip_snd {vs : List V} {xs : List PyData} (h : vs.length = xs.length) : (vs.zip xs).map (·.2) = xs := by
  rw [List.map_snd_zip (by omega)]
theorem dvAll_mem {K : PySem.W.Frag} {H : Hp} {S : Addr → Prop} : ∀ {vs : List V} {xs : List PyData}, DvAll K H S vs xs → ∀ q ∈ vs.zip xs, Dv K H S q.1 q.2
  | _, _, .nil, _, h => by cases h
  | _, _, .cons h1 h2, q, h => by
    rw [List.zip_cons_cons] at h
    rcases List.mem_cons.mp h with rfl | h
    · exact h1
    · exact dvAll_mem h2 q h
theorem dvAll_of {K : PySem.W.Frag} {H : Hp} {S : Addr → Prop} : ∀ {ws : List (V × PyData)}, (∀ q ∈ ws, Dv K H S q.1 q.2) → DvAll K H S (ws.map (·.1)) (ws.map (·.2))
  | [], _ => .nil
  | q :: ws, h => .cons (h q List.mem_cons_self) (dvAll_of fun r hr => h r (List.mem_cons_of_mem _ hr))
theorem ins_map {α β : Type} {r : α → α → Bool} {s : β → β → Bool} (f : α → β) (h : ∀ a b, r a b = s (f a) (f b)) (a : α) : ∀ xs : List α, (ins r a xs).map f = ins s (f a) (xs.map f)
  | [] => rfl
  | b :: bs => by
    unfold ins
    rw [List.map_cons]
    show _ = (match s (f a) (f b) with | true => f a :: f b :: bs.map f | false => f b :: ins s (f a) (bs.map f))
    rw [h a b]
    cases s (f a) (f b) with
    | true => rfl
    | false => rw [← ins_map f h a bs]; rfl
theorem isort_map {α β : Type} {r : α → α → Bool} {s : β → β → Bool} (f : α → β) (h : ∀ a b, r a b = s (f a) (f b)) : ∀ xs : List α, (isort r xs).map f = isort s (xs.map f)
  | [] => rfl
  | b :: bs => by
    show (ins r b (isort r bs)).map f = ins s (f b) (isort s (bs.map f))
    rw [ins_map f h, isort_map f h bs]
theorem j_sorted (z : Cz X E k) (hm : X.mg "sorted" = none) (ha : PE X a (tE X.K Γ A B E fa ma)) (hf : fa.el = .p) (hg : Gl X "sorted" := by rfl) (hs : starEach [a] X.env = (false, eval a X.env) :: starEach [] X.env := by rfl) :
    PE X (.Call (.Name "sorted" p) [a] [] pos) (tE X.K Γ A B E .f (mOpL (fSorted false) (mCons ma mNil))) := by
  refine j_opL ?_ (pe_callB (o_sortD z.hu) hg hm bt_sorted (l_cons ha l_nil hs) (he := hs))
  intro A B H O vs xs z Q c r e q
  unfold fSorted at e
  split at e
  · rename_i ys
    split at e
    · rename_i hk
      cases e
      rw [Bool.and_eq_true, Bool.and_eq_true] at hk
      obtain ⟨l, us, rfl, h1, h2⟩ := list_arg c r
      rw [hf] at h2
      have hl := h2.length
      have hal := alike_of_all hk.1.1
      refine ⟨l, us.zip ys, rfl, by rw [zip_fst hl]; exact h1.sq, fun w hw => (dvAll_mem h2 w hw).dpl (plAll_mem (shalAll_pl 40 ys hk.2) (List.of_mem_zip hw).2), by rw [zip_snd hl]; exact hal, by rw [zip_snd hl]; exact sortable_ok hk.1.2, by rw [zip_snd hl]; exact (shalAll_ok 40 ys hk.2).1, fun l2 hp => ?_⟩
      have es : isort (leD false) ys = ((us.zip ys).mergeSort (dataLe false (·.2))).map (·.2) := by
        rw [← sort_data false (·.2) (us.zip ys) (fun a ha b hb => hal _ (by rw [← zip_snd hl]; exact List.mem_map_of_mem ha) _ (by rw [← zip_snd hl]; exact List.mem_map_of_mem hb)), isort_map (r := fun (a b : V × PyData) => leD false a.2 b.2) (s := leD false) (fun q : V × PyData => q.2) (fun _ _ => rfl), zip_snd hl]
      rw [es] at q
      refine q _ _ (laid_same hp) ⟨l2, _, _, rfl, rfl, upd_same, c.bn hp, c.an hp, c.on hp, ?_⟩
      refine DvAll.mono (S := sset .p A O) (fun b o n w => laid_same hp b o w) (fun b n hn w => ?_) _ (dvAll_of fun w hw => dvAll_mem h2 w (List.mem_mergeSort.mp hw))
      rcases w with w | w
      · exact n w
      · exact hn (by rw [w]; exact hp)
    · cases e
  · cases e
theorem dpAll_dv {K : PySem.W.Frag} {H : Hp} {S : Addr → Prop} {vs : List V} {xs : List PyData} (h : DvAll K H S vs xs) (p : plAll xs = true) : DpAll K H vs xs := h.dpl p
theorem pick_dv {K : PySem.W.Frag} {H : Hp} {S : Addr → Prop} {vs : List V} {xs : List PyData} {i : Nat} {v : V} {d : PyData} (h : DvAll K H S vs xs) (e1 : vs[i]? = some v) (e2 : xs[i]? = some d) : Dv K H S v d := by
  obtain ⟨w, h1, h2⟩ := h.get e2
  rw [e1] at h1
  cases h1
  exact h2
theorem alikeAll_of {x : PyData} {xs : List PyData} (h : AllAlike (x :: xs)) (hn : (!isNonD x) = true) : AlikeAll (x :: xs) := by
  have hx : x ≠ .none := by
    rintro rfl
    cases hn
  exact ⟨h, fun y hy => ne_none_both (h x List.mem_cons_self y hy) hx⟩
theorem j_min1 (z : Cz X E k) (hm : X.mg "min" = none) (ha : PE X a (tE X.K Γ A B E fa ma)) (hg : Gl X "min" := by rfl) (hs : starEach [a] X.env = (false, eval a X.env) :: starEach [] X.env := by rfl) :
    PE X (.Call (.Name "min" p) [a] [] pos) (tE X.K Γ A B E fa.el (mOpL fMin (mCons ma mNil))) := by
  refine j_opL ?_ (pe_callB (o_minD z.calm z.hu) hg hm bt_min (l_cons ha l_nil hs) (he := hs))
  intro A B H O vs xs z Q c r e q
  unfold fMin at e
  split at e
  · have := vrels_len r; simp at this
  · rename_i y ys
    split at e
    · rename_i hk
      cases e
      rw [Bool.and_eq_true, Bool.and_eq_true] at hk
      obtain ⟨l, us, rfl, h1, h2⟩ := list_arg c r
      have hal := alike_of_all hk.1.1
      refine ⟨l, us, y, ys, rfl, h1.sq, h2.dpl (shalAll_pl 40 _ hk.2), alikeAll_of hal hk.1.2, (shalAll_ok 40 _ hk.2).1, fun i v e1 e2 => ?_⟩
      rw [leastD_eq y ys (· ∈ y :: ys) List.mem_cons_self (fun w hw => List.mem_cons_of_mem _ hw) fun a b ha hb => hal a ha b hb] at q
      exact q v H (Same.refl H) (VRel.of_dv (el_bare _) (pick_dv h2 e1 e2))
    · cases e
  · cases e
theorem j_max1 (z : Cz X E k) (hm : X.mg "max" = none) (ha : PE X a (tE X.K Γ A B E fa ma)) (hg : Gl X "max" := by rfl) (hs : starEach [a] X.env = (false, eval a X.env) :: starEach [] X.env := by rfl) :
    PE X (.Call (.Name "max" p) [a] [] pos) (tE X.K Γ A B E fa.el (mOpL fMax (mCons ma mNil))) := by
  refine j_opL ?_ (pe_callB (o_maxD z.calm z.hu) hg hm bt_max (l_cons ha l_nil hs) (he := hs))
  intro A B H O vs xs z Q c r e q
  unfold fMax at e
  split at e
  · have := vrels_len r; simp at this
  · rename_i y ys
    split at e
    · rename_i hk
      cases e
      rw [Bool.and_eq_true, Bool.and_eq_true] at hk
      obtain ⟨l, us, rfl, h1, h2⟩ := list_arg c r
      have hal := alike_of_all hk.1.1
      refine ⟨l, us, y, ys, rfl, h1.sq, h2.dpl (shalAll_pl 40 _ hk.2), alikeAll_of hal hk.1.2, (shalAll_ok 40 _ hk.2).1, fun i v e1 e2 => ?_⟩
      rw [mostD_eq y ys (· ∈ y :: ys) List.mem_cons_self (fun w hw => List.mem_cons_of_mem _ hw) fun a b ha hb => hal a ha b hb] at q
      exact q v H (Same.refl H) (VRel.of_dv (el_bare _) (pick_dv h2 e1 e2))
    · cases e
  · cases e
theorem j_min2 (z : Cz X E k) (hm : X.mg "min" = none) (ha : PE X a (tE X.K Γ A B E fa ma)) (hb : PE X b (tE X.K Γ A B E fb mb)) (hg : Gl X "min" := by rfl) (hs : starEach [a, b] X.env = (false, eval a X.env) :: starEach [b] X.env := by rfl) (hs2 : starEach [b] X.env = (false, eval b X.env) :: starEach [] X.env := by rfl)
    (hpl : (backTo pos (starEach [b] X.env)).any (·.1) = false := by rfl) :
    PE X (.Call (.Name "min" p) [a, b] [] pos) (tE X.K Γ A B E .p (mOpL fMin (mCons ma (mCons mb mNil)))) := by
  refine j_opL ?_ (pe_callB (call_min2 z.calm) hg hm bt_min (l_cons ha (l_cons hb l_nil hs2) hs) (he := hs) (hpl := hpl))
  intro A B H O vs xs z Q c r e q
  unfold fMin at e
  split at e
  · cases e
    obtain ⟨v, u, rfl, h1, h2⟩ := two_args c r
    cases h1
    cases h2
    exact ⟨_, _, rfl, q _ H (Same.refl H) (.int _)⟩
  · have := vrels_len r; simp at this
  · cases e
theorem j_max2 (z : Cz X E k) (hm : X.mg "max" = none) (ha : PE X a (tE X.K Γ A B E fa ma)) (hb : PE X b (tE X.K Γ A B E fb mb)) (hg : Gl X "max" := by rfl) (hs : starEach [a, b] X.env = (false, eval a X.env) :: starEach [b] X.env := by rfl) (hs2 : starEach [b] X.env = (false, eval b X.env) :: starEach [] X.env := by rfl)
    (hpl : (backTo pos (starEach [b] X.env)).any (·.1) = false := by rfl) :
    PE X (.Call (.Name "max" p) [a, b] [] pos) (tE X.K Γ A B E .p (mOpL fMax (mCons ma (mCons mb mNil)))) := by
  refine j_opL ?_ (pe_callB (call_max2 z.calm) hg hm bt_max (l_cons ha (l_cons hb l_nil hs2) hs) (he := hs) (hpl := hpl))
  intro A B H O vs xs z Q c r e q
  unfold fMax at e
  split at e
  · cases e
    obtain ⟨v, u, rfl, h1, h2⟩ := two_args c r
    cases h1
    cases h2
    exact ⟨_, _, rfl, q _ H (Same.refl H) (.int _)⟩
  · have := vrels_len r; simp at this
  · cases e
end
end PD
set_option maxHeartbeats 2000000
/-! PD 9: what is walked, list comprehensions. -/
namespace PD
open PySem PySem.Spec PyProof.Rows L2 PySem.W

/-- an iterator that yields these data; w: also while statements run (the items stand for good, or are the caller's) -/
def DIt (w : Bool) (K : PySem.W.Frag) (fl : Fl) (A : Addr → Prop) (B : Hp) (O : Ow) (H : Hp) (J : It) (xs : List PyData) : Prop :=
  ∀ (A' : Addr → Prop) (O' : Ow) (H' : Hp), Step O H O' H' → (w = false → O' = O ∧ Same H H') → (∀ a, A' a → A a ∨ H a = none) → Cor A' B O' H' →
    (∀ i x, xs[i]? = some x → J.go i H' ∧ ∀ v H2, J.yld i H' v H2 → Same H' H2 ∧ VRel K fl A' B O' H2 v x) ∧ J.stop xs.length H'
def tI (w : Bool) (K : PySem.W.Frag) (Γ : List Kd) (A : Addr → Prop) (B : Hp) (E : XK) (fl : Fl) (m : ML) : TI := fun σ H R => ∃ O env, Sim K Γ A B O H env σ ∧ match m env with
  | .ok xs => ∀ J H', Same H H' → DIt w K fl A B O H' J xs → R J H'
  | .exc c x => XOk K A B E c x
  | .bad => False
def mItems (a : ME) : ML := fun env => (a env).bind fun x => .opt (seqOf x)

section
variable {X : Cx} {Γ : List Kd} {A : Addr → Prop} {B : Hp} {E : XK} {k : Nat} {e a b : Expr} {fa fb fl : Fl} {ma mb : ME} {p pos : Pos} {tg : Expr}
/-- a list or a tuple, walked -/
def iSeq (K : PySem.W.Frag) (tl : TE) : TI := fun σ H R => tl σ H fun x H1 => ∃ a, x = .ref a ∧ (((∃ xs, SqL K H1 a xs) ∧ R (Itl K a) H1) ∨ ((∃ xs, SqT K H1 a xs) ∧ R (Itt K a) H1))
theorem pi_seq {l : Expr} {tl : TE} (hl : PE X l tl) : PI X tg l (iSeq X.K tl) := by
  refine ⟨fun pins s σ H R I h => ?_⟩
  refine thn (hl.run pins s σ H _ I h) fun v s1 ⟨x, H1, I1, r1, q1⟩ => ?_
  obtain ⟨a, e, q1⟩ := q1
  subst e
  cases r1
  rcases q1 with ⟨⟨xs, hq⟩, q⟩ | ⟨⟨xs, hq⟩, q⟩
  · obtain ⟨its, rv, p, hz⟩ := I1.list hq
    refine wpAny_pyIter_list p.isList ?_
    refine ⟨s1.heap.objs.size, [s1.heap.objs.size], _, _, H1, rfl, I1.kept (t' := s1.toks) (fun b o e => Heap.get?_push_of_some _ e), turn_list a _, ⟨_, Heap.get?_push_size _ rfl, rfl, rfl⟩, ?_, q⟩
    intro b hb
    obtain rfl : b = s1.heap.objs.size := by simpa using hb
    exact I1.fpOk (Nat.le_refl _) (I1.hok.fresh (Nat.le_refl _))
  · obtain ⟨its, rv, p, hz⟩ := I1.tuple hq
    refine wpAny_pyIter_tuple (show s1.heap.IsTuple a its.toArray from p) ?_
    refine ⟨s1.heap.objs.size, [s1.heap.objs.size], _, _, H1, rfl, I1.kept (t' := s1.toks) (fun b o e => Heap.get?_push_of_some _ e), turn_tuple a _, ⟨_, Heap.get?_push_size _ rfl, rfl, rfl⟩, ?_, q⟩
    intro b hb
    obtain rfl : b = s1.heap.objs.size := by simpa using hb
    exact I1.fpOk (Nat.le_refl _) (I1.hok.fresh (Nat.le_refl _))
/-- what stands off the own lists still stands after a step -/
def stepS (w : Bool) : Fl → (Addr → Prop) → Ow → Addr → Prop := fun f A O => match w with
  | true => match f with
    | .p => own O
    | .b => own O
    | _ => fun _ => True
  | false => fun _ => False
theorem dv_step {K : PySem.W.Frag} {O O' : Ow} {H H' : Hp} {A' : Addr → Prop} {vs : List V} {xs : List PyData} {w : Bool} (hf : w = true → fl = .p ∨ fl = .b) (hs : w = false → O' = O ∧ Same H H') (ha : ∀ a, A' a → A a ∨ H a = none) (h : DvAll K H (sset fl A O) vs xs) (s : Step O H O' H') : DvAll K H' (sset fl A' O') vs xs := by
  have key : ∀ a, H a ≠ none → sset fl A' O' a → sset fl A O a := fun a hn z => by
    have hA : A' a → A a := fun q => (ha a q).resolve_right hn
    cases w with
    | false =>
      obtain ⟨rfl, _⟩ := hs rfl
      cases fl with
      | p => exact z.imp hA id
      | f => exact z.imp hA id
      | t => exact hA z
      | o => exact hA z
      | _ => exact z
    | true =>
      have hO : own O' a → own O a := fun q => (s.old a q).resolve_right hn
      rcases hf rfl with rfl | rfl
      · exact z.imp hA hO
      · exact hO z
  refine DvAll.mono (fun a o n e => ?_) (fun a n hn z => n (key a hn z)) xs h
  cases w with
  | false => exact (hs rfl).2 a o e
  | true =>
    refine s.keep a o (fun z => ?_) e
    rcases hf rfl with rfl | rfl
    · exact n (.inr z)
    · exact n z
/-- walking a list that stands while what runs goes on -/
theorem dit_list {K : PySem.W.Frag} {O : Ow} {H : Hp} {a : Addr} {vs : List V} {xs : List PyData} {w : Bool} (hw : w = true → (fl = .p ∨ fl = .b) ∧ ¬ own O a) (h1 : Rd H a (.lst vs)) (h2 : DvAll K H (sset fl A O) vs xs) (hb : fl.bare) :
    DIt w K fl A B O H (Itl K a) xs := by
  intro A' O' H' st hs ha c
  have hrd : Rd H' a (.lst vs) := by
    cases w with
    | true => exact rd_keep (.inl rfl) (fun o e => st.keep a o (hw rfl).2 e) h1
    | false => exact rd_keep (.inl rfl) (fun o e => (hs rfl).2 a o e) h1
  have hsq : SqL K H' a vs := .inl hrd
  have hdv : DvAll K H' (sset fl A' O') vs xs := dv_step (fun z => (hw z).1) hs ha h2 st
  refine ⟨fun i x hx => ?_, ⟨vs, hsq, by rw [hdv.length]; exact Nat.le_refl _⟩⟩
  obtain ⟨v, hv, dv⟩ := hdv.get hx
  refine ⟨⟨vs, v, hsq, hv⟩, fun v2 H2 y => ?_⟩
  obtain ⟨e, y⟩ := y
  subst e
  have := y vs hsq
  rw [hv] at this
  cases this
  exact ⟨Same.refl _, VRel.of_dv hb dv⟩
/-- the own lists are lists -/
theorem Sim.lists {K : PySem.W.Frag} {Γ : List Kd} {A : Addr → Prop} {B : Hp} {O : Ow} {H : Hp} {env : En} {σ : L2.St} (m : Sim K Γ A B O H env σ) : ∀ i b, O i = some b → ∃ ws, H b = some (.lst ws) := by
  intro i b h
  obtain ⟨v, x, h1, h2, a, vs, xs, h3, h4, h5, h6, h7⟩ := m.slot i .o (m.owns i b h) (by simp)
  rw [h] at h3
  cases h3
  exact ⟨vs, h6⟩
theorem dit_tup {K : PySem.W.Frag} {O : Ow} {H : Hp} {a : Addr} {vs : List V} {xs : List PyData} {w : Bool} (hl : ∀ i b, O i = some b → ∃ ws, H b = some (.lst ws)) (hw : w = true → (fl = .p ∨ fl = .b)) (h1 : ST K H (fun _ => False) a vs) (h2 : DvAll K H (sset fl A O) vs xs) (hb : fl.bare) :
    DIt w K fl A B O H (Itt K a) xs := by
  intro A' O' H' st hs ha c
  have hsq : SqT K H' a vs := by
    rcases h1 with ⟨_, h⟩ | h
    · refine .inl (rd_keep (.inr rfl) (fun o e => st.keep a o ?_ e) h)
      rintro ⟨i, hi⟩
      obtain ⟨ws, e2⟩ := hl i a hi
      rcases h with h | ⟨o2, h⟩ <;> (rw [h] at e2; cases e2)
    · exact .inr h
  have hdv : DvAll K H' (sset fl A' O') vs xs := dv_step hw hs ha h2 st
  refine ⟨fun i x hx => ?_, ⟨vs, hsq, by rw [hdv.length]; exact Nat.le_refl _⟩⟩
  obtain ⟨v, hv, dv⟩ := hdv.get hx
  refine ⟨⟨vs, v, hsq, hv⟩, fun v2 H2 y => ?_⟩
  obtain ⟨e, y⟩ := y
  subst e
  have := y vs hsq
  rw [hv] at this
  cases this
  exact ⟨Same.refl _, VRel.of_dv hb dv⟩
/-- may be walked while statements run -/
def Fl.walks : Fl → Bool
  | .p => true
  | .b => true
  | .f => true
  | _ => false
theorem walks_el {f : Fl} (h : f.walks = true) : f.el = .p ∨ f.el = .b := by cases f <;> first | exact .inl rfl | exact .inr rfl | cases h
theorem walks_no {K : PySem.W.Frag} {O : Ow} {H : Hp} {v : V} {xs : List PyData} {f : Fl} (c : Cor A B O H) (h : f.walks = true) (r : VRel K f A B O H v (.list xs)) : ∃ a vs, v = .ref a ∧ Rd H a (.lst vs) ∧ ¬ own O a ∧ DvAll K H (sset f.el A O) vs xs := by
  cases f with
  | p => cases r with | lst h1 h2 => exact ⟨_, _, rfl, h1.2, fun z => h1.1 (.inr z), h2⟩
  | b => cases r with | lst h1 h2 => exact ⟨_, _, rfl, h1.2, fun z => h1.1 z, h2⟩
  | f =>
    obtain ⟨a, vs, ys, rfl, e, h1, h0, h2, h3, h4⟩ := r
    cases e
    exact ⟨a, vs, rfl, .inl h1, h3, h4.less fun b z => .inl z⟩
  | _ => cases h
/-- what is walked of data: a list or a tuple. w: while statements run -/
theorem i_seq {w : Bool} (hw : w = true → fa.walks = true) (ha : PE X a (tE X.K Γ A B E fa ma)) : PI X tg a (tI w X.K Γ A B E fa.el (mItems ma)) := by
  refine ⟨fun pins s σ H R I ⟨O, env, m, q⟩ => (pi_seq ha).run pins s σ H R I ⟨O, env, m, ?_⟩⟩
  unfold mItems at q
  cases e1 : ma env with
  | bad => rw [e1] at q; exact q
  | exc c x => rw [e1] at q; exact q
  | ok x =>
    rw [e1] at q
    intro v H1 s1 r1
    have c1 := m.cor.up s1
    cases x with
    | list xs =>
      cases w with
      | true =>
        obtain ⟨l, vs, rfl, h1, h2, h3⟩ := walks_no c1 (hw rfl) r1
        exact ⟨l, rfl, .inl ⟨⟨vs, .inl h1⟩, q _ H1 s1 (dit_list (fun _ => ⟨walks_el (hw rfl), h2⟩) h1 h3 (el_bare _))⟩⟩
      | false =>
        obtain ⟨l, vs, rfl, h1, h3⟩ := (r1.items c1).1 xs rfl
        exact ⟨l, rfl, .inl ⟨⟨vs, h1.sq⟩, q _ H1 s1 (dit_list (fun z => by cases z) h1.2 h3 (el_bare _))⟩⟩
    | tuple xs =>
      obtain ⟨l, vs, rfl, h1, h3⟩ := (r1.items c1).2 xs rfl
      exact ⟨l, rfl, .inr ⟨⟨vs, h1.sq⟩, q _ H1 s1 (dit_tup (m.up s1).lists (fun z => walks_el (hw z)) h1 h3 (el_bare _))⟩⟩
    | _ => exact q.elim

/-! ### range -/
/-- lo, lo + 1, .. (n of them) -/
def upFrom (lo : Int) : Nat → List PyData
  | 0 => []
  | n + 1 => .int lo :: upFrom (lo + 1) n
theorem upFrom_get : ∀ (n : Nat) (lo : Int) (i : Nat) (x : PyData), (upFrom lo n)[i]? = some x → i < n ∧ x = .int (lo + i)
  | 0, _, _, _, h => by simp [upFrom] at h
  | n + 1, lo, 0, x, h => by
    simp [upFrom] at h
    exact ⟨Nat.succ_pos n, by rw [← h]; simp⟩
  | n + 1, lo, i + 1, x, h => by
    have q := upFrom_get n (lo + 1) i x (by simpa [upFrom] using h)
    refine ⟨Nat.succ_lt_succ q.1, ?_⟩
    rw [q.2]
    congr 1
    omega
theorem upFrom_len : ∀ (n : Nat) (lo : Int), (upFrom lo n).length = n
  | 0, _ => rfl
  | n + 1, lo => congrArg (· + 1) (upFrom_len n (lo + 1))
theorem dit_range {K : PySem.W.Frag} {O : Ow} {H : Hp} {lo : Int} {n : Nat} {w : Bool} : DIt w K .p A B O H (Itr lo n) (upFrom lo n) := by
  intro A' O' H' st hs ha c
  refine ⟨fun i x hx => ?_, by rw [upFrom_len]; exact Nat.le_refl _⟩
  obtain ⟨h1, rfl⟩ := upFrom_get n lo i x hx
  refine ⟨h1, fun v2 H2 y => ?_⟩
  obtain ⟨e, rfl⟩ := y
  subst e
  exact ⟨Same.refl _, Dv.int _⟩
def inR (i : Int) : Bool := decide (-4611686018427387904 ≤ i) && decide (i < 4611686018427387904)
def fRange : List PyData → Option (List PyData)
  | [.int j] => match inR j with
    | true => some (upFrom 0 j.toNat)
    | false => none
  | [.int i, .int j] => match inR i && inR j with
    | true => some (upFrom i (j - i).toNat)
    | false => none
  | _ => none
def mRange (m : ML) : ML := fun env => (m env).bind fun xs => .opt (fRange xs)
theorem inR_ok {i : Int} (h : inR i = true) : -(2 ^ 62) ≤ i ∧ i < 2 ^ 62 := by
  unfold inR at h
  rw [Bool.and_eq_true] at h
  have h1 := of_decide_eq_true h.1
  have h2 := of_decide_eq_true h.2
  exact ⟨by omega, by omega⟩
theorem dit_r {K : PySem.W.Frag} {O : Ow} {H : Hp} {w : Bool} {R : It → Hp → Prop} {vs : List V} {xs ys : List PyData} {fls : List Fl} (c : Cor A B O H) (r : VRels K A B O H fls vs xs) (e : fRange xs = some ys) (q : ∀ J, DIt w K .p A B O H J ys → R J H) :
    (∃ j : Int, vs = [.int j] ∧ -(2 ^ 62) ≤ j ∧ j < 2 ^ 62 ∧ R (Itr 0 j.toNat) H) ∨ (∃ i j : Int, vs = [.int i, .int j] ∧ (-(2 ^ 62) ≤ i ∧ i < 2 ^ 62 ∧ -(2 ^ 62) ≤ j ∧ j < 2 ^ 62) ∧ R (Itr i (j - i).toNat) H) := by
  unfold fRange at e
  split at e
  · split at e
    · rename_i h
      cases e
      cases r with
      | cons r1 r2 =>
        cases r2
        cases r1.any c
        have b := inR_ok h
        exact .inl ⟨_, rfl, b.1, b.2, q _ dit_range⟩
    · cases e
  · split at e
    · rename_i h
      cases e
      rw [Bool.and_eq_true] at h
      cases r with
      | cons r1 r2 =>
        cases r2 with
        | cons r3 r4 =>
          cases r4
          cases r1.any c
          cases r3.any c
          have b := inR_ok h.1
          have b2 := inR_ok h.2
          exact .inr ⟨_, _, rfl, ⟨b.1, b.2, b2.1, b2.2⟩, q _ dit_range⟩
    · cases e
  · cases e
theorem i_range1 {w : Bool} (hm : X.mg "range" = none) (ha : PE X a (tE X.K Γ A B E fa ma)) (hg : Gl X "range" := by rfl) (hs : starEach [a] X.env = [(false, eval a X.env)] := by rfl) :
    PI X tg (.Call (.Name "range" p) [a] [] pos) (tI w X.K Γ A B E .p (mRange (mCons ma mNil))) := by
  refine ⟨fun pins s σ H R I ⟨O, env, m, q⟩ => (pi_range1 hg hm (l_cons ha l_nil hs) hs).run pins s σ H R I ⟨O, env, m, ?_⟩⟩
  unfold mRange at q
  cases e1 : mCons ma mNil env with
  | bad => rw [e1] at q; exact q
  | exc c x => rw [e1] at q; exact q
  | ok xs =>
    rw [e1] at q
    intro vs H1 s1 r1
    cases e2 : fRange xs with
    | none => simp only [Res.bind, Res.opt, e2] at q
    | some ys =>
      simp only [Res.bind, Res.opt, e2] at q
      rcases dit_r (m.cor.up s1) r1 e2 (fun J d => q J H1 s1 d) with h | ⟨i, j, h, _⟩
      · exact h
      · subst h
        cases r1 with
        | cons r1 r2 => cases r2
theorem i_range2 {w : Bool} (hm : X.mg "range" = none) (ha : PE X a (tE X.K Γ A B E fa ma)) (hb : PE X b (tE X.K Γ A B E fb mb)) (hg : Gl X "range" := by rfl) (hs : starEach [a, b] X.env = [(false, eval a X.env), (false, eval b X.env)] := by rfl) (hs2 : starEach [b] X.env = [(false, eval b X.env)] := by rfl) :
    PI X tg (.Call (.Name "range" p) [a, b] [] pos) (tI w X.K Γ A B E .p (mRange (mCons ma (mCons mb mNil)))) := by
  refine ⟨fun pins s σ H R I ⟨O, env, m, q⟩ => (pi_range2 hg hm (l_cons ha (l_cons hb l_nil hs2) (by rw [hs, hs2])) hs hs2).run pins s σ H R I ⟨O, env, m, ?_⟩⟩
  unfold mRange at q
  cases e1 : mCons ma (mCons mb mNil) env with
  | bad => rw [e1] at q; exact q
  | exc c x => rw [e1] at q; exact q
  | ok xs =>
    rw [e1] at q
    intro vs H1 s1 r1
    cases e2 : fRange xs with
    | none => simp only [Res.bind, Res.opt, e2] at q
    | some ys =>
      simp only [Res.bind, Res.opt, e2] at q
      rcases dit_r (m.cor.up s1) r1 e2 (fun J d => q J H1 s1 d) with ⟨i, h, _⟩ | h
      · subst h
        cases r1 with
        | cons r1 r2 => cases r2
      · exact h

/-! ### targets -/
abbrev MG := PyData → En → Option En
abbrev MGs := List PyData → En → Option En
def gSet (i : Nat) : MG := fun x env => some (env.set i x)
def gNo : MGs := fun xs env => match xs with
  | [] => some env
  | _ => none
def gMore (g : MG) (gs : MGs) : MGs := fun xs env => match xs with
  | x :: xs => match g x env with
    | some env' => gs xs env'
    | none => none
  | [] => none
def gTuple (n : Nat) (gs : MGs) : MG := fun x env => match x with
  | .tuple xs => match Nat.beq xs.length n with
    | true => gs xs env
    | false => none
  | _ => none
def kdOf : Fl → Option Kd
  | .p => some .d
  | .b => some .b
  | _ => none
def tG (K : PySem.W.Frag) (Γ Γ' : List Kd) (A : Addr → Prop) (B : Hp) (vs : List Nat) (fl : Fl) (g : MG) : TG := fun v σ H Q => ∃ O env x, Sim K Γ A B O H env σ ∧ VRel K fl A B O H v x ∧ match g x env with
  | some env' => ∀ σ', Sim K Γ' A B O H env' σ' → wipe σ' vs = wipe σ vs → Q σ' H
  | none => False
def tGs (K : PySem.W.Frag) (Γ Γ' : List Kd) (A : Addr → Prop) (B : Hp) (vs : List Nat) (fl : Fl) (g : MGs) : TGs := fun us σ H Q => ∃ O env xs, Sim K Γ A B O H env σ ∧ DvAll K H (sset fl A O) us xs ∧ match g xs env with
  | some env' => ∀ σ', Sim K Γ' A B O H env' σ' → wipe σ' vs = wipe σ vs → Q σ' H
  | none => False
theorem set_get {α : Type} {xs : List α} {i j : Nat} {x y : α} (h : (xs.set i x)[j]? = some y) : (j = i ∧ y = x) ∨ (j ≠ i ∧ xs[j]? = some y) := by
  by_cases e : j = i
  · subst e
    by_cases hl : j < xs.length
    · rw [List.getElem?_set_self hl] at h
      exact .inl ⟨rfl, (Option.some.inj h).symm⟩
    · rw [List.getElem?_eq_none (by simpa using hl)] at h
      cases h
  · rw [List.getElem?_set_ne (Ne.symm e)] at h
    exact .inr ⟨e, h⟩
/-- a slot that is no own list takes data -/
theorem Sim.put {K : PySem.W.Frag} {O : Ow} {H : Hp} {env : En} {σ : L2.St} {i : Nat} {k : Kd} {k0 : Kd} {v : V} {x : PyData} (m : Sim K Γ A B O H env σ) (hi : Γ[i]? = some k0) (h0 : k0 ≠ .o) (hk : k ≠ .o) (hv : k ≠ .n → SlotR K k A O H i v x) :
    Sim K (Γ.set i k) A B O H (env.set i x) (σ.set i (some v)) := by
  have hl : i < Γ.length := (List.getElem?_eq_some_iff.mp hi).1
  refine ⟨m.cor, by rw [List.length_set, List.length_set]; exact m.len, by rw [List.length_set, List.length_set]; exact m.lenS, fun j kj hj hn => ?_, fun j a hj => ?_⟩
  · rcases set_get hj with ⟨rfl, rfl⟩ | ⟨e, hj⟩
    · exact ⟨v, x, List.getElem?_set_self (by rw [m.lenS]; exact hl), List.getElem?_set_self (by rw [m.len]; exact hl), hv hn⟩
    · obtain ⟨w, y, h1, h2, h3⟩ := m.slot j kj hj hn
      exact ⟨w, y, by rw [List.getElem?_set_ne (Ne.symm e)]; exact h1, by rw [List.getElem?_set_ne (Ne.symm e)]; exact h2, h3⟩
  · have q := m.owns j a hj
    by_cases e : j = i
    · subst e
      rw [hi] at q
      exact absurd (Option.some.inj q) h0
    · rw [List.getElem?_set_ne (Ne.symm e)]
      exact q
theorem wipe_set {σ : L2.St} {i : Nat} {o : Option V} : ∀ {vs : List Nat}, i ∈ vs → wipe (σ.set i o) vs = wipe σ vs
  | v :: vs, h => by
    unfold wipe
    by_cases hv : i ∈ vs
    · rw [wipe_set hv]
    · have e : i = v := (List.mem_cons.mp h).resolve_right hv
      subst e
      have comm : ∀ ws : List Nat, i ∉ ws → wipe (σ.set i o) ws = (wipe σ ws).set i o := by
        intro ws
        induction ws with
        | nil => intro _; rfl
        | cons w ws ih =>
          intro hn
          unfold wipe
          rw [ih fun z => hn (List.mem_cons_of_mem _ z), List.set_comm _ _ (fun z => hn (by rw [z]; exact List.mem_cons_self))]
      rw [comm vs hv, List.set_set]
theorem g_name {vs : List Nat} {i : Nat} {x : Str} {k k0 : Kd} (hN : X.N.Nodup) (hx : X.N[i]? = some x) (hl : Loc X.env.scope x) (hk : kdOf fl = some k) (h0 : Γ[i]? = some k0) (hn : k0 ≠ .o) (hv : i ∈ vs) (hf : X.fn x = true ∨ X.env.scope.names.lookup x = some .local := by first | exact .inl rfl | exact .inr rfl | assumption) :
    PG X (.Name x pos) (tG X.K Γ (Γ.set i k) A B vs fl (gSet i)) := by
  refine ⟨fun pins s σ H v u Q I r ⟨O, env, y, m, rv, q⟩ => (pg_name hN hx hl hf).run pins s σ H v u Q I r ?_⟩
  refine q _ (m.put h0 hn ?_ fun _ => ?_) (wipe_set hv)
  · cases fl <;> cases hk <;> simp
  · cases fl <;> cases hk <;> exact rv
theorem g_nil {vs : List Nat} : PGs X [] (tGs X.K Γ Γ A B vs fl gNo) := by
  refine ⟨fun pins s σ H us ws Q I r ⟨O, env, xs, m, rv, q⟩ => pgs_nil.run pins s σ H us ws Q I r ?_⟩
  cases rv with
  | nil => exact ⟨rfl, q σ m rfl⟩
  | cons _ _ => exact q.elim
theorem g_cons {vs : List Nat} {Γ1 Γ2 : List Kd} {t : Expr} {ts : List Expr} {g : MG} {gs : MGs} (hb : fl.bare) (h1 : PG X t (tG X.K Γ Γ1 A B vs fl g)) (h2 : PGs X ts (tGs X.K Γ1 Γ2 A B vs fl gs)) (hs : (assignEach (t :: ts) X.env).map (·.2) = assign t X.env :: (assignEach ts X.env).map (·.2) := by rfl) :
    PGs X (t :: ts) (tGs X.K Γ Γ2 A B vs fl (gMore g gs)) := by
  refine ⟨fun pins s σ H us ws Q I r ⟨O, env, xs, m, rv, q⟩ => (pgs_cons h1 h2 hs).run pins s σ H us ws Q I r ?_⟩
  unfold gMore at q
  cases rv with
  | nil => exact q.elim
  | @cons v0 vs0 x0 xs0 r1 r2 =>
    refine ⟨_, _, rfl, O, env, x0, m, VRel.of_dv hb r1, ?_⟩
    cases e : g x0 env with
    | none => simp only [e] at q
    | some env1 =>
      simp only [e] at q
      refine fun σ1 m1 w1 => ⟨O, env1, xs0, m1, r2, ?_⟩
      cases e2 : gs xs0 env1 with
      | none => simp only [e2] at q
      | some env2 =>
        simp only [e2] at q
        exact fun σ2 m2 w2 => q σ2 m2 (w2.trans w1)
theorem g_tup {vs : List Nat} {Γ2 : List Kd} {ts : List Expr} {n k2 : Nat} {gs : MGs} (hc : X.calm = true) (h : PGs X ts (tGs X.K Γ Γ2 A B vs fl.el gs)) (hn : (assignEach ts X.env).length = n := by rfl) (hst : (assignEach ts X.env).findIdx? (·.1) = none := by rfl) :
    PG X (.Tuple ts k2 pos) (tG X.K Γ Γ2 A B vs fl (gTuple n gs)) := by
  refine ⟨fun pins s σ H v u Q I r ⟨O, env, x, m, rv, q⟩ => (pg_tup hc h hn hst).run pins s σ H v u Q I r ?_⟩
  unfold gTuple at q
  cases x with
  | tuple xs =>
    simp only at q
    cases e : Nat.beq xs.length n with
    | false => simp only [e] at q
    | true =>
      simp only [e] at q
      obtain ⟨l, ws, rfl, h1, h2⟩ := (rv.items m.cor).2 xs rfl
      exact ⟨l, ws, rfl, h1.sq, by rw [h2.length]; exact Nat.eq_of_beq_eq_true e, O, env, xs, m, h2, q⟩
  | _ => exact q.elim

/-! ### list comprehensions -/
def mTrue : En → Res Bool := fun _ => .ok true
def lcGo (g : MG) (t : En → Res Bool) (e : ME) (env : En) : List PyData → Res (List PyData)
  | [] => .ok []
  | x :: xs => match g x env with
    | none => .bad
    | some env' => match t env' with
      | .ok true => match e env' with
        | .ok y => match lcGo g t e env xs with
          | .ok ys => .ok (y :: ys)
          | _ => .bad
        | _ => .bad
      | .ok false => lcGo g t e env xs
      | _ => .bad
def mLc (it : ML) (g : MG) (t : En → Res Bool) (e : ME) : ME := fun env => (it env).bind fun xs => match lcGo g t e env xs with
  | .ok ys => match okLen ys with
    | true => .ok (.list ys)
    | false => .bad
  | _ => .bad
/-- the slots of a comprehension's own names are not known within it -/
def wipeK (Γ : List Kd) : List Nat → List Kd
  | [] => Γ
  | v :: vs => (wipeK Γ vs).set v .n
theorem wipeK_len (Γ : List Kd) : ∀ vs : List Nat, (wipeK Γ vs).length = Γ.length
  | [] => rfl
  | v :: vs => by rw [wipeK, List.length_set, wipeK_len Γ vs]
theorem wipeK_get {Γ : List Kd} {i : Nat} {k : Kd} : ∀ {vs : List Nat}, (wipeK Γ vs)[i]? = some k → k ≠ .n → Γ[i]? = some k ∧ i ∉ vs
  | [], h, _ => ⟨h, by simp⟩
  | v :: vs, h, hn => by
    unfold wipeK at h
    rcases set_get h with ⟨_, rfl⟩ | ⟨e, h⟩
    · exact absurd rfl hn
    · obtain ⟨h1, h2⟩ := wipeK_get h hn
      exact ⟨h1, by simp only [List.mem_cons, not_or]; exact ⟨e, h2⟩⟩
theorem wipe_get {σ : L2.St} {i : Nat} : ∀ {vs : List Nat}, i ∉ vs → (wipe σ vs)[i]? = σ[i]?
  | [], _ => rfl
  | v :: vs, h => by
    unfold wipe
    rw [List.getElem?_set_ne (fun e => h (by rw [e]; exact List.mem_cons_self)), wipe_get fun z => h (List.mem_cons_of_mem _ z)]
/-- no own list stands in a comprehension's own slots -/
def noOwn (Γ : List Kd) (vs : List Nat) : Bool := vs.all fun v => decide (Γ[v]? ≠ some .o)
theorem wipeK_own {Γ : List Kd} {i : Nat} : ∀ {vs : List Nat}, i ∉ vs → (wipeK Γ vs)[i]? = Γ[i]?
  | [], _ => rfl
  | v :: vs, h => by
    unfold wipeK
    rw [List.getElem?_set_ne (fun e => h (by rw [e]; exact List.mem_cons_self)), wipeK_own fun z => h (List.mem_cons_of_mem _ z)]
theorem Sim.wiped {K : PySem.W.Frag} {O : Ow} {H : Hp} {env : En} {σ : L2.St} {vs : List Nat} (m : Sim K Γ A B O H env σ) (hv : noOwn Γ vs = true) : Sim K (wipeK Γ vs) A B O H env (wipe σ vs) := by
  refine ⟨m.cor, by rw [wipeK_len]; exact m.len, by rw [wipeK_len, wipe_length]; exact m.lenS, fun i k hi hn => ?_, fun i a hi => ?_⟩
  · obtain ⟨h1, h2⟩ := wipeK_get hi hn
    obtain ⟨v, x, h3, h4, h5⟩ := m.slot i k h1 hn
    exact ⟨v, x, by rw [wipe_get h2]; exact h3, h4, h5⟩
  · have q := m.owns i a hi
    have hn : i ∉ vs := fun z => by
      have := List.all_eq_true.mp hv i z
      rw [q] at this
      simp at this
    rw [wipeK_own hn]
    exact q
/-- one more address that must not be in what is said: a new list of which nothing was known -/
theorem Sim.more {K : PySem.W.Frag} {O : Ow} {H H' : Hp} {env : En} {σ : L2.St} {D : Addr} (m : Sim K Γ A B O H env σ) (hD : H D = none) (s : Same H H') (hD' : H' D ≠ none) : Sim K Γ (fun a => A a ∨ a = D) B O H' env σ := by
  have c := m.cor
  have dv : ∀ {S S' : Addr → Prop} {v : V} {x : PyData}, (∀ a, S' a → S a ∨ a = D) → Dv K H S v x → Dv K H' S' v x := fun {S S' v x} hs h => Dv.mono (fun a o _ e => s a o e) (fun a n hn z => (hs a z).elim n (fun e => hn (by rw [e]; exact hD))) x h
  have dva : ∀ {S S' : Addr → Prop} {vs : List V} {xs : List PyData}, (∀ a, S' a → S a ∨ a = D) → DvAll K H S vs xs → DvAll K H' S' vs xs := fun {S S' v x} hs h => DvAll.mono (fun a o _ e => s a o e) (fun a n hn z => (hs a z).elim n (fun e => hn (by rw [e]; exact hD))) x h
  have sp : ∀ a, sset .p (fun a => A a ∨ a = D) O a → sset .p A O a ∨ a = D := fun a z => by
    rcases z with (z | z) | z
    · exact .inl (.inl z)
    · exact .inr z
    · exact .inl (.inr z)
  refine ⟨⟨c.same.trans s, fun a z => ?_, fun a z => ?_, c.ob, fun i a e => same_some s (c.oh i a e), c.inj, tabs_same s c.tabs⟩, m.len, m.lenS, fun i k hi hn => ?_, m.owns⟩
  · rcases z with z | rfl
    · exact same_some s (c.an' a z)
    · exact hD'
  · rcases z with z | rfl
    · exact c.ao' a z
    · exact c.on hD
  · obtain ⟨v, x, h1, h2, h3⟩ := m.slot i k hi hn
    refine ⟨v, x, h1, h2, ?_⟩
    cases k with
    | n => trivial
    | d => exact dv sp h3
    | b => exact dv (fun a z => .inl z) h3
    | o =>
      obtain ⟨a, vs, xs, e1, e2, e3, e4, e5⟩ := h3
      exact ⟨a, vs, xs, e1, e2, e3, s _ _ e4, dva sp e5⟩
end
end PD
set_option maxHeartbeats 2000000
/-! PD 10: list comprehensions. -/
namespace PD
open PySem PySem.Spec PyProof.Rows L2 PySem.W
def xG (t : (Addr → Prop) → TG) : TG := fun v σ H Q => ∃ A', t A' v σ H Q
def xT (t : (Addr → Prop) → TT) : TT := fun σ H Q => ∃ A', t A' σ H Q
def xE (t : (Addr → Prop) → TE) : TE := fun σ H Q => ∃ A', t A' σ H Q
section
variable {X : Cx}
theorem x_g {tg : Expr} {t : (Addr → Prop) → TG} (h : ∀ A', PG X tg (t A')) : PG X tg (xG t) := ⟨fun pins s σ H v u Q I r ⟨A', q⟩ => (h A').run pins s σ H v u Q I r q⟩
theorem x_t {ifs : List Expr} {t : (Addr → Prop) → TT} (h : ∀ A', PTs X ifs (t A')) : PTs X ifs (xT t) := ⟨fun pins s σ H Q I ⟨A', q⟩ => (h A').run pins s σ H Q I q⟩
theorem x_e {e : Expr} {t : (Addr → Prop) → TE} (h : ∀ A', PE X e (t A')) : PE X e (xE t) := ⟨fun pins s σ H Q I ⟨A', q⟩ => (h A').run pins s σ H Q I q⟩
end
section
variable {X : Cx} {Γ Γ1 : List Kd} {A : Addr → Prop} {B : Hp} {E : XK} {k : Nat} {fI fe : Fl} {mit : ML} {g : MG} {t : En → Res Bool} {e : ME} {vs : List Nat}
theorem t_none : PTs X [] (tT X.K Γ A B E mTrue) := by
  refine ⟨fun pins s σ H Q I ⟨O, env, m, q⟩ => pts_nil.run pins s σ H Q I (q H (Same.refl H))⟩
theorem t_one {c : Expr} (h : PT X c (tT X.K Γ A B E t)) : PTs X [c] (tT X.K Γ A B E t) := pts_one h
/-- the result's flag -/
def lcFl : Fl → Fl
  | .p => .f
  | f => f
theorem lc_imp {K : PySem.W.Frag} (hv : noOwn Γ vs = true) (hfe : fe = .p ∨ fe = .t) {σ : L2.St} {H : Hp} {Q : VK} (h : tE K Γ A B E (lcFl fe) (mLc mit g t e) σ H Q) :
    tLc (tI false K Γ A B E fI mit) (xG fun A' => tG K (wipeK Γ vs) Γ1 A' B vs fI g) (xT fun A' => tT K Γ1 A' B E0 t) (xE fun A' => tE K Γ1 A' B E0 fe e) vs σ H Q := by
  obtain ⟨O, env, m, q⟩ := h
  refine ⟨O, env, m, ?_⟩
  unfold mLc at q
  cases e1 : mit env with
  | bad => rw [e1] at q; exact q
  | exc c x => rw [e1] at q; exact q
  | ok xs =>
    rw [e1] at q
    intro J H1 s1 dit D hD
    simp only [Res.bind] at q
    cases e2 : lcGo g t e env xs with
    | bad => simp only [e2] at q
    | exc c x => simp only [e2] at q
    | ok ys =>
      simp only [e2] at q
      cases e3 : okLen ys with
      | false => simp only [e3] at q
      | true =>
        simp only [e3] at q
        have hlen : ys.length ≤ 16777216 := Nat.le_of_ble_eq_true e3
        have m1 := m.up s1
        have c1 := m1.cor
        refine ⟨fun i n H => n = xs.length - i ∧ i ≤ xs.length ∧ ∃ (acc : List V) (done rest : List PyData), Same H1 H ∧ H D = some (.lst acc) ∧ DvAll K H (sset fe (fun a => A a ∨ a = D) O) acc done ∧ lcGo g t e env (xs.drop i) = .ok rest ∧ done ++ rest = ys,
          ⟨xs.length, by simp, Nat.zero_le _, [], [], ys, laid_same hD, upd_same, .nil, by simpa using e2, rfl⟩, ?_⟩
        rintro i n H2 ⟨rfl, hi, acc, done, rest, s2, hDH, hacc, hgo, hys⟩
        have cA : Cor (fun a => A a ∨ a = D) B O H2 := (m1.more hD s2 (by rw [hDH]; simp)).cor
        have dd := dit (fun a => A a ∨ a = D) O H2 (Step.of_same s2) (fun _ => ⟨rfl, s2⟩) (fun a z => z.imp id (fun q => by rw [q]; exact hD)) cA
        by_cases hlt : i < xs.length
        · have hx : xs[i]? = some xs[i] := List.getElem?_eq_getElem hlt
          obtain ⟨hgo1, hy⟩ := dd.1 i xs[i] hx
          have hdrop : xs.drop i = xs[i] :: xs.drop (i + 1) := List.drop_eq_getElem_cons hlt
          rw [hdrop] at hgo
          refine .inr ⟨hgo1, fun H' => i + 1 ≤ xs.length ∧ ∃ (acc : List V) (done rest : List PyData), Same H1 H' ∧ H' D = some (.lst acc) ∧ DvAll K H' (sset fe (fun a => A a ∨ a = D) O) acc done ∧ lcGo g t e env (xs.drop (i + 1)) = .ok rest ∧ done ++ rest = ys,
            fun H' w => ⟨xs.length - (i + 1), by omega, rfl, w⟩, fun v H3 y => ?_⟩
          obtain ⟨s3, rv⟩ := hy v H3 y
          have s13 := s2.trans s3
          have hD3 : H3 D = some (.lst acc) := s3 _ _ hDH
          have mw := (m1.more hD s13 (by rw [hD3]; simp)).wiped (vs := vs) hv
          unfold lcGo at hgo
          cases e4 : g xs[i] env with
          | none => simp only [e4] at hgo; cases hgo
          | some env2 =>
            simp only [e4] at hgo
            refine ⟨_, O, env, xs[i], mw, rv, ?_⟩
            rw [e4]
            refine fun σ2 m2 w2 => ⟨w2.trans ?_, ?_⟩
            · clear w2 mw
              -- wiping twice is wiping
              have : ∀ ws : List Nat, wipe (wipe σ ws) ws = wipe σ ws := by
                intro ws
                induction ws with
                | nil => rfl
                | cons w ws ih =>
                  show (wipe ((wipe σ ws).set w none) ws).set w none = _
                  have sw : ∀ (τ : L2.St) (us : List Nat), (wipe (τ.set w none) us).set w none = (wipe τ us).set w none := by
                    intro τ us
                    induction us generalizing τ with
                    | nil => show (τ.set w none).set w none = _; rw [List.set_set]; rfl
                    | cons u us ih2 =>
                      unfold wipe
                      by_cases hu : u = w
                      · subst hu
                        rw [List.set_set, List.set_set]
                        exact ih2 τ
                      · rw [List.set_comm _ _ hu, ih2 τ, List.set_comm _ _ (Ne.symm hu)]
                  rw [sw, ih]
                  rfl
              exact this vs
            · cases e5 : t env2 with
              | bad => simp only [e5] at hgo; cases hgo
              | exc c x => simp only [e5] at hgo; cases hgo
              | ok b =>
                refine ⟨_, O, env2, m2, ?_⟩
                rw [e5]
                intro H4 s4
                cases b with
                | false =>
                  simp only [e5] at hgo
                  exact ⟨hlt, acc, done, rest, s13.trans s4, s4 _ _ hD3, hacc.same (s3.trans s4), hgo, hys⟩
                | true =>
                  simp only [e5] at hgo
                  cases e6 : e env2 with
                  | bad => simp only [e6] at hgo; cases hgo
                  | exc c x => simp only [e6] at hgo; cases hgo
                  | ok y1 =>
                    simp only [e6] at hgo
                    refine ⟨_, O, env2, m2.up s4, ?_⟩
                    rw [e6]
                    intro u H5 s5 ru
                    cases e7 : lcGo g t e env (xs.drop (i + 1)) with
                    | bad => simp only [e7] at hgo; cases hgo
                    | exc c x => simp only [e7] at hgo; cases hgo
                    | ok rest2 =>
                      simp only [e7] at hgo
                      cases hgo
                      have hD5 : H5 D = some (.lst acc) := s5 _ _ (s4 _ _ hD3)
                      have c5 : Cor (fun a => A a ∨ a = D) B O H5 := (m2.up (s4.trans s5)).cor
                      have hu := ru.dv c5
                      have hall : DvAll K H5 (sset fe (fun a => A a ∨ a = D) O) (acc ++ [u]) (done ++ [y1]) := (hacc.same (s3.trans (s4.trans s5))).append (.cons hu .nil)
                      have hSD : sset fe (fun a => A a ∨ a = D) O D := by
                        rcases hfe with rfl | rfl
                        · exact .inl (.inr rfl)
                        · exact .inr rfl
                      have nD : ∀ {a : Addr} {o : HO}, H1 a = some o → a ≠ D := fun {a o} q z => by rw [z, hD] at q; cases q
                      refine ⟨acc, hD5, ?_, hlt, acc ++ [u], done ++ [y1], rest2, fun a o q => ?_, upd_same, ?_, rfl, by rw [List.append_assoc]; exact hys⟩
                      · have l1 := hacc.length
                        have l2 := congrArg List.length hys
                        rw [List.length_append, List.length_cons] at l2
                        rw [sizeLine_eq]
                        omega
                      · exact (((s13.trans s4).trans s5) _ _ q).trans fun o' e' => tk_lst hD5 (nD q) e'
                      · refine DvAll.mono (fun a o n q => ?_) (fun a n _ => n) _ hall
                        exact tk_lst hD5 (fun z => n (by rw [z]; exact hSD)) q
        · have he : i = xs.length := by omega
          subst he
          rw [List.drop_length] at hgo
          cases hgo
          rw [List.append_nil] at hys
          subst hys
          refine .inl ⟨dd.2, q _ H2 (s1.trans s2) ?_⟩
          rcases hfe with rfl | rfl
          · refine ⟨D, acc, done, rfl, rfl, hDH, c1.bn hD, c1.an hD, c1.on hD, hacc.less fun b z => ?_⟩
            rcases z with (z | z) | z
            · exact .inl (.inl z)
            · exact .inr z
            · exact .inl (.inr z)
          · exact Dv.lst ⟨c1.an hD, .inl hDH⟩ (hacc.less fun b z => .inl z)
/-- a comprehension as a value -/
theorem j_lc {elt tg iter : Expr} {ifs : List Expr} {scope : Scope} {own : List (Str × Nat)} {pos : Pos} (z : Cz X E k) (hN : X.N.Nodup) (hi : PI X tg iter (tI false X.K Γ A B E fI mit)) (ok : BlkOk X.N X.env.scope scope own) (hv : noOwn Γ (own.map (·.2)) = true) (hfe : fe = .p ∨ fe = .t)
    (hg : ∀ (A' : Addr → Prop) (s : Shared) (H : Hp) (C : Addr) (cl : List (Str × Addr)) (fp : List Addr), PG (X.blk s H scope (compEnvC scope cl C X.env) fp) tg (tG X.K (wipeK Γ (own.map (·.2))) Γ1 A' B (own.map (·.2)) fI g))
    (ht : ∀ (A' : Addr → Prop) (s : Shared) (H : Hp) (C : Addr) (cl : List (Str × Addr)) (fp : List Addr), PTs (X.blk s H scope (compEnvC scope cl C X.env) fp) ifs (tT X.K Γ1 A' B E0 t))
    (he : ∀ (A' : Addr → Prop) (s : Shared) (H : Hp) (C : Addr) (cl : List (Str × Addr)) (fp : List Addr), PE (X.blk s H scope (compEnvC scope cl C X.env) fp) elt (tE X.K Γ1 A' B E0 fe e)) (hs : ∀ x, foldedSetIterable iter X.env x = pure x := by intro _; rfl) :
    PE X (.ListComp elt [⟨tg, iter, ifs, 0⟩] scope pos) (tE X.K Γ A B E (lcFl fe) (mLc mit g t e)) :=
  ⟨fun pins s σ H Q I h => (pe_lc z.calm hN hi ok (fun s H C cl fp => x_g fun A' => hg A' s H C cl fp) (fun s H C cl fp => x_t fun A' => ht A' s H C cl fp) (fun s H C cl fp => x_e fun A' => he A' s H C cl fp) hs).run pins s σ H Q I (lc_imp hv hfe h)⟩
end
end PD
set_option maxHeartbeats 2000000
/-! PD 11: statements. -/
namespace PD
open PySem PySem.Spec PyProof.Rows L2 PySem.W

/-! ### what is known of the slots, told less -/
def kle (k k2 : Kd) : Bool := decide (k2 = .n) || decide (k2 = k) || (decide (k = .o) && decide (k2 = .d))
def kles : List Kd → List Kd → Bool
  | [], [] => true
  | k :: ks, k2 :: ks2 => kle k k2 && kles ks ks2
  | _, _ => false
theorem kles_len : ∀ {a b : List Kd}, kles a b = true → a.length = b.length
  | [], [], _ => rfl
  | _ :: _, _ :: _, h => by
    unfold kles at h
    rw [Bool.and_eq_true] at h
    exact congrArg (· + 1) (kles_len h.2)
theorem kles_get : ∀ {a b : List Kd} {i : Nat} {k2 : Kd}, kles a b = true → b[i]? = some k2 → ∃ k, a[i]? = some k ∧ kle k k2 = true
  | [], [], _, _, _, e => by simp at e
  | _ :: _, [], _, _, _, e => by simp at e
  | [], _ :: _, _, _, h, _ => by simp [kles] at h
  | _ :: _, _ :: _, 0, k2, h, e => by
    unfold kles at h
    rw [Bool.and_eq_true] at h
    simp at e
    subst e
    exact ⟨_, rfl, h.1⟩
  | _ :: _, _ :: _, i + 1, k2, h, e => by
    unfold kles at h
    rw [Bool.and_eq_true] at h
    exact kles_get (a := _) (i := i) h.2 (by simpa using e)
def owOf (Γ : List Kd) (O : Ow) : Ow := fun i => match Γ[i]? with
  | some .o => O i
  | _ => none
theorem owOf_some {Γ : List Kd} {O : Ow} {i : Nat} {a : Addr} (h : owOf Γ O i = some a) : O i = some a ∧ Γ[i]? = some .o := by
  unfold owOf at h
  split at h
  · rename_i e; exact ⟨h, e⟩
  · cases h
theorem owOf_own {Γ : List Kd} {O : Ow} {a : Addr} (h : own (owOf Γ O) a) : own O a := by
  obtain ⟨i, e⟩ := h
  exact ⟨i, (owOf_some e).1⟩
section
variable {K : PySem.W.Frag} {Γ Γ1 Γ2 Γ' : List Kd} {A : Addr → Prop} {B H H' : Hp} {O O' : Ow} {env : En} {σ : L2.St}
theorem Step.owOf : Step O H (owOf Γ O) H := ⟨fun _ _ _ e => .refl e, fun _ z => .inl (owOf_own z), fun _ h => h⟩
theorem Sim.weak (m : Sim K Γ A B O H env σ) (h : kles Γ Γ2 = true) : Sim K Γ2 A B (PD.owOf Γ2 O) H env σ := by
  have c := m.cor
  refine ⟨⟨c.same, c.an', fun a z w => c.ao' a z (owOf_own w), fun i a e => c.ob i a (owOf_some e).1, fun i a e => c.oh i a (owOf_some e).1, fun i j a e e2 => c.inj i j a (owOf_some e).1 (owOf_some e2).1, c.tabs⟩,
    m.len.trans (kles_len h), m.lenS.trans (kles_len h), fun i k2 hi hn => ?_, fun i a e => (owOf_some e).2⟩
  obtain ⟨k, hk, hle⟩ := kles_get h hi
  have lessP : ∀ a, sset .p A (PD.owOf Γ2 O) a → sset .p A O a := fun a z => z.imp id owOf_own
  have lessB : ∀ a, sset .b A (PD.owOf Γ2 O) a → sset .b A O a := fun a z => owOf_own z
  unfold kle at hle
  rw [Bool.or_eq_true, Bool.or_eq_true] at hle
  rcases hle with (z | z) | z
  · exact absurd (of_decide_eq_true z) hn
  · have e := of_decide_eq_true z
    subst e
    obtain ⟨v, x, h1, h2, h3⟩ := m.slot i k2 hk hn
    refine ⟨v, x, h1, h2, ?_⟩
    cases k2 with
    | n => trivial
    | d => exact Dv.less h3 lessP
    | b => exact Dv.less h3 lessB
    | o =>
      obtain ⟨a, vs, xs, e1, e2, e3, e4, e5⟩ := h3
      refine ⟨a, vs, xs, ?_, e2, e3, e4, e5.less lessP⟩
      unfold PD.owOf
      rw [hi]
      exact e1
  · rw [Bool.and_eq_true] at z
    have e1 := of_decide_eq_true z.1
    have e2 := of_decide_eq_true z.2
    subst e1
    subst e2
    obtain ⟨v, x, h1, h2, h3⟩ := m.slot i .o hk (by simp)
    refine ⟨v, x, h1, h2, ?_⟩
    obtain ⟨a, vs, xs, e1, rfl, rfl, e4, e5⟩ := h3
    refine Dv.lst ⟨fun z => ?_, .inl e4⟩ (e5.less lessP)
    rcases z with z | ⟨j, z⟩
    · exact c.ao' a z ⟨i, e1⟩
    · obtain ⟨z1, z2⟩ := owOf_some z
      have := c.inj _ _ a e1 z1
      subst this
      rw [hi] at z2
      cases z2
end

/-! ### what a statement comes to -/
def Ret (K : PySem.W.Frag) (rk : Fl) (A : Addr → Prop) (B : Hp) (H : Hp) (v : V) (x : PyData) : Prop := match rk with
  | .f => ∃ (a : Addr) (vs : List V) (xs : List PyData), v = .ref a ∧ x = .list xs ∧ H a = some (.lst vs) ∧ B a = none ∧ DvAll K H (fun b => A b ∨ b = a) vs xs
  | _ => Dv K H A v x
def tS (K : PySem.W.Frag) (Γ Γ' : List Kd) (A : Addr → Prop) (B : Hp) (E : XK) (rk : Fl) (m : MS) : TS := fun D σ H => ∃ O env, Sim K Γ A B O H env σ ∧ match m env with
  | .ok (.next env') => ∀ O' σ' H', Step O H O' H' → Sim K Γ' A B O' H' env' σ' → D.nx σ' H'
  | .ok (.ret x) => ∀ v H', Same B H' → Ret K rk A B H' v x → D.rt v H'
  | .ok (.cont _) => False
  | .exc c x => XOk K A B E c x
  | .bad => False

/-! ### the functions -/
def mNext : MS := fun env => .ok (.next env)
def mStop : MS := fun _ => .bad
def mSeq (m n : MS) : MS := fun env => (m env).bind fun o => match o with
  | .next e => n e
  | .ret x => .ok (.ret x)
  | .cont e => .ok (.cont e)
def mDrop (a : ME) : MS := fun env => (a env).bind fun _ => .ok (.next env)
def mRet (a : ME) : MS := fun env => (a env).bind fun x => .ok (.ret x)
def mRetN : MS := fun _ => .ok (.ret .none)
def mIfS (c : En → Res Bool) (m n : MS) : MS := fun env => (c env).bind fun k => match k with
  | true => m env
  | false => n env
def mSet (i : Nat) (a : ME) : MS := fun env => (a env).bind fun x => .ok (.next (env.set i x))
def mAsg (a : ME) (g : MG) : MS := fun env => (a env).bind fun x => (Res.opt (g x env)).bind fun env' => .ok (.next env')
def two : List PyData → Option (PyData × PyData)
  | [x, y] => some (x, y)
  | _ => none
def mPar (i j : Nat) (a : ML) : MS := fun env => (a env).bind fun xs => (Res.opt (two xs)).bind fun p => .ok (.next ((env.set i p.1).set j p.2))

section
variable {X : Cx} {Γ Γ1 Γ2 Γ' : List Kd} {A : Addr → Prop} {B : Hp} {E : XK} {rk : Fl} {st : Stmt} {rest : List Stmt} {m n : MS} {e : Expr} {a : ME} {fl : Fl} {pos : Pos}
/-- less known before -/
theorem tS_weak (h : kles Γ Γ2 = true) {D : Ends} {σ : L2.St} {H : Hp} (q : tS X.K Γ Γ' A B E rk m D σ H) : tS X.K Γ2 Γ' A B E rk m D σ H := by
  obtain ⟨O, env, si, q⟩ := q
  refine ⟨owOf Γ2 O, env, si.weak h, ?_⟩
  cases e1 : m env with
  | bad => rw [e1] at q; exact q
  | exc c x => rw [e1] at q; exact q
  | ok o =>
    rw [e1] at q
    cases o with
    | next e' => exact fun O' σ' H' s z => q O' σ' H' (Step.owOf.trans s) z
    | ret x => exact q
    | cont e' => exact q
theorem s_weak (h : kles Γ Γ2 = true) (q : PS X st (tS X.K Γ2 Γ' A B E rk m)) : PS X st (tS X.K Γ Γ' A B E rk m) := ⟨fun pins s σ H D I w => q.run pins s σ H D I (tS_weak h w)⟩
theorem b_weak (h : kles Γ Γ2 = true) (q : PSs X rest (tS X.K Γ2 Γ' A B E rk m)) : PSs X rest (tS X.K Γ Γ' A B E rk m) := ⟨fun pins s σ H D I w => q.run pins s σ H D I (tS_weak h w)⟩
/-- less known behind -/
theorem tS_post (h : kles Γ1 Γ2 = true) {D : Ends} {σ : L2.St} {H : Hp} (q : tS X.K Γ Γ2 A B E rk m D σ H) : tS X.K Γ Γ1 A B E rk m D σ H := by
  obtain ⟨O, env, si, q⟩ := q
  refine ⟨O, env, si, ?_⟩
  cases e1 : m env with
  | bad => rw [e1] at q; exact q
  | exc c x => rw [e1] at q; exact q
  | ok o =>
    rw [e1] at q
    cases o with
    | next e' => exact fun O' σ' H' s z => q _ σ' H' (s.trans Step.owOf) (z.weak h)
    | ret x => exact q
    | cont e' => exact q
theorem b_post (h : kles Γ1 Γ2 = true) (q : PSs X rest (tS X.K Γ Γ1 A B E rk m)) : PSs X rest (tS X.K Γ Γ2 A B E rk m) := ⟨fun pins s σ H D I w => q.run pins s σ H D I (tS_post h w)⟩
theorem b_nil : PSs X [] (tS X.K Γ Γ A B E rk mNext) := ⟨fun pins s σ H D I ⟨O, env, si, q⟩ => pss_nil.run pins s σ H D I (q O σ H Step.refl si)⟩
theorem b_nil' (h : kles Γ Γ' = true) : PSs X [] (tS X.K Γ Γ' A B E rk mNext) := b_post h b_nil
theorem tSeq_imp {D : Ends} {σ : L2.St} {H : Hp} (w : tS X.K Γ Γ' A B E rk (mSeq m n) D σ H) : tSeq (tS X.K Γ Γ1 A B E rk m) (tS X.K Γ1 Γ' A B E rk n) D σ H := by
  obtain ⟨O, env, si, q⟩ := w
  refine ⟨O, env, si, ?_⟩
  unfold mSeq at q
  cases e1 : m env with
  | bad => rw [e1] at q; exact q
  | exc c x => rw [e1] at q; exact q
  | ok o =>
    rw [e1] at q
    cases o with
    | ret x => exact q
    | cont e' => exact q
    | next e' =>
      refine fun O' σ' H' s z => ⟨O', e', z, ?_⟩
      simp only [Res.bind] at q
      cases e2 : n e' with
      | bad => rw [e2] at q; exact q
      | exc c x => rw [e2] at q; exact q
      | ok o =>
        rw [e2] at q
        cases o with
        | next e' => exact fun O2 σ2 H2 s2 z2 => q O2 σ2 H2 (s.trans s2) z2
        | ret x => exact q
        | cont e' => exact q
theorem b_cons (h1 : PS X st (tS X.K Γ Γ1 A B E rk m)) (h2 : PSs X rest (tS X.K Γ1 Γ' A B E rk n)) : PSs X (st :: rest) (tS X.K Γ Γ' A B E rk (mSeq m n)) :=
  ⟨fun pins s σ H D I w => (pss_cons h1 h2).run pins s σ H D I (tSeq_imp w)⟩
theorem b_one (h1 : PS X st (tS X.K Γ Γ' A B E rk m)) : PSs X [st] (tS X.K Γ Γ' A B E rk m) := pss_one h1
/-- a statement that is never come to -/
theorem s_stop : PS X st (tS X.K Γ Γ' A B E rk mStop) := ⟨fun pins s σ H D I ⟨O, env, si, q⟩ => q.elim⟩
theorem b_stop : PSs X rest (tS X.K Γ Γ' A B E rk mStop) := ⟨fun pins s σ H D I ⟨O, env, si, q⟩ => q.elim⟩
theorem s_pass {pos : Pos} : PS X (.Pass pos) (tS X.K Γ Γ A B E rk mNext) := ⟨fun pins s σ H D I ⟨O, env, si, q⟩ => ps_pass.run pins s σ H D I (q O σ H Step.refl si)⟩
theorem s_drop (h : PE X e (tE X.K Γ A B E fl a)) (hs : swapsWith e none pos.line X.env = pure false := by rfl) : PS X (.Expr e pos) (tS X.K Γ Γ A B E rk (mDrop a)) := by
  refine ⟨fun pins s σ H D I ⟨O, env, si, q⟩ => (ps_expr h hs).run pins s σ H D I ⟨O, env, si, ?_⟩⟩
  unfold mDrop at q
  cases e1 : a env with
  | bad => rw [e1] at q; exact q
  | exc c x => rw [e1] at q; exact q
  | ok x =>
    rw [e1] at q
    exact fun v H1 s1 r1 => q O σ H1 (Step.of_same s1) (si.up s1)
/-- a value handed back -/
def Fl.gives (f rk : Fl) : Bool := match rk, f with
  | .p, .p => true
  | .p, .t => true
  | .p, .f => true
  | .p, .o => true
  | .f, .f => true
  | .f, .o => true
  | _, _ => false
theorem VRel.ret {K : PySem.W.Frag} {O : Ow} {H : Hp} {v : V} {x : PyData} (c : Cor A B O H) (hf : fl.gives rk = true) (r : VRel K fl A B O H v x) : Ret K rk A B H v x := by
  have less : ∀ {f : Fl}, sset f A O = A ∨ sset f A O = (fun b => A b ∨ own O b) → VRel K f A B O H v x → Dv K H A v x := fun {f} h r => (r.dv c).less fun a z => by
    rcases h with h | h
    · rw [h]; exact z
    · rw [h]; exact .inl z
  cases rk with
  | p =>
    cases fl with
    | p => exact less (.inr rfl) r
    | t => exact less (.inl rfl) r
    | f => exact less (.inr rfl) r
    | o => exact less (.inl rfl) r
    | _ => cases hf
  | f =>
    cases fl with
    | f =>
      obtain ⟨a, vs, xs, rfl, rfl, e, hz, hb, ho, hd⟩ := r
      exact ⟨a, vs, xs, rfl, rfl, e, hz, hd.less fun b z => z.elim (fun z => .inl (.inl z)) .inr⟩
    | o =>
      obtain ⟨a, vs, xs, rfl, rfl, e, ⟨i, ho⟩, hd⟩ := r
      exact ⟨a, vs, xs, rfl, rfl, e, c.ob i a ho, hd.less fun b z => z.elim .inl (fun z => .inr ⟨i, by rw [z]; exact ho⟩)⟩
    | _ => cases hf
  | _ => cases fl <;> cases hf
theorem s_ret (hf : fl.gives rk = true) (h : PE X e (tE X.K Γ A B E fl a)) : PS X (.Return (some e) pos) (tS X.K Γ Γ' A B E rk (mRet a)) := by
  refine ⟨fun pins s σ H D I ⟨O, env, si, q⟩ => (ps_ret h).run pins s σ H D I ⟨O, env, si, ?_⟩⟩
  unfold mRet at q
  cases e1 : a env with
  | bad => rw [e1] at q; exact q
  | exc c x => rw [e1] at q; exact q
  | ok x =>
    rw [e1] at q
    exact fun v H1 s1 r1 => q v H1 (si.cor.up s1).same (r1.ret (si.cor.up s1) hf)
theorem s_if {c : Expr} {t f : List Stmt} {mc : En → Res Bool} (hc : PT X c (tT X.K Γ A B E mc)) (ht : PSs X t (tS X.K Γ Γ' A B E rk m)) (hf : PSs X f (tS X.K Γ Γ' A B E rk n)) : PS X (.If c t f pos) (tS X.K Γ Γ' A B E rk (mIfS mc m n)) := by
  refine ⟨fun pins s σ H D I ⟨O, env, si, q⟩ => (ps_if hc ht hf).run pins s σ H D I ⟨O, env, si, ?_⟩⟩
  unfold mIfS at q
  cases e1 : mc env with
  | bad => rw [e1] at q; exact q
  | exc c x => rw [e1] at q; exact q
  | ok k =>
    rw [e1] at q
    intro H1 s1
    have fin : ∀ {m : MS}, (match m env with
        | .ok (.next env') => ∀ O' σ' H', Step O H O' H' → Sim X.K Γ' A B O' H' env' σ' → D.nx σ' H'
        | .ok (.ret x) => ∀ v H', Same B H' → Ret X.K rk A B H' v x → D.rt v H'
        | .ok (.cont _) => False
        | .exc c x => XOk X.K A B E c x
        | .bad => False) → tS X.K Γ Γ' A B E rk m D σ H1 := fun {m} w => by
      refine ⟨O, env, si.up s1, ?_⟩
      cases e2 : m env with
      | bad => rw [e2] at w; exact w
      | exc c x => rw [e2] at w; exact w
      | ok o =>
        rw [e2] at w
        cases o with
        | next e' => exact fun O' σ' H' s z => w O' σ' H' ((Step.of_same s1).trans s) z
        | ret x => exact w
        | cont e' => exact w
    cases k with
    | true => exact (if_pos rfl).mpr (fin q)
    | false => exact (if_neg (by simp)).mpr (fin q)

/-! ### names are set -/
/-- the kind of a slot that takes a value -/
def kdS : Fl → Option Kd
  | .p => some .d
  | .b => some .b
  | .f => some .o
  | _ => none
theorem kles_refl : ∀ l : List Kd, kles l l = true
  | [] => rfl
  | k :: ks => by
    unfold kles
    rw [kles_refl ks]
    simp [kle]
theorem kles_set : ∀ (l : List Kd) (j : Nat), kles l (l.set j .n) = true
  | [], _ => rfl
  | k :: ks, 0 => by
    show kles (k :: ks) (.n :: ks) = true
    unfold kles
    rw [kles_refl]
    simp [kle]
  | k :: ks, j + 1 => by
    show kles (k :: ks) (k :: ks.set j .n) = true
    unfold kles
    rw [kles_set ks j]
    simp [kle]
/-- slot i set anew at a later heap: what it owned is let go -/
theorem Sim.put1 {K : PySem.W.Frag} {O : Ow} {H0 H : Hp} {env : En} {σ : L2.St} {i : Nat} {k : Kd} {v : V} {x : PyData} (si : Sim K Γ A B O H0 env σ) (hs : Same H0 H) (hi : i < Γ.length) (hk : kdS fl = some k) (r : VRel K fl A B O H v x)
    (hnew : fl = .f → ∀ p, v = .ref p → H0 p = none) :
    ∃ O', Step O H0 O' H ∧ Sim K (Γ.set i k) A B O' H (env.set i x) (σ.set i (some v)) ∧ ∀ q, own O' q → own O q ∨ (fl = .f ∧ v = .ref q) := by
  have c := si.cor
  have hni : (Γ.set i .n)[i]? = some Kd.n := by simp [hi]
  have hset : (Γ.set i .n).set i k = Γ.set i k := by simp
  have w0 : Sim K (Γ.set i .n) A B (owOf (Γ.set i .n) O) H0 env σ := si.weak (kles_set Γ i)
  have w := w0.up hs
  have e0 : owOf (Γ.set i .n) O i = none := by
    unfold owOf
    rw [hni]
  have hle : i < env.length := by rw [si.len]; exact hi
  have hls : i < σ.length := by rw [si.lenS]; exact hi
  by_cases hf : fl = .f
  · subst hf
    cases hk
    obtain ⟨p, vs, xs, rfl, rfl, e, hz, hb, ho, hd⟩ := r
    have hp0 := hnew rfl p rfl
    have ho' : ¬ own (owOf (Γ.set i .n) O) p := fun z => ho (owOf_own z)
    have own' : ∀ q, own (fun j => if j = i then some p else owOf (Γ.set i .n) O j) q → own (owOf (Γ.set i .n) O) q ∨ q = p := fun q ⟨j, ej⟩ => by
      simp only at ej
      split at ej
      · cases ej
        exact .inr rfl
      · exact .inl ⟨j, ej⟩
    -- what was known before p was made
    have lessP : ∀ {v : V} {x : PyData}, Dv K H0 (sset .p A (owOf (Γ.set i .n) O)) v x → Dv K H (sset .p A (fun j => if j = i then some p else owOf (Γ.set i .n) O j)) v x := fun {v x} d => Dv.mono (fun a o _ q => hs a o q) (fun a n hn z => by
      rcases z with z | z
      · exact n (.inl z)
      · rcases own' a z with z | z
        · exact n (.inr z)
        · rw [z] at hn; exact hn hp0) x d
    have lessB : ∀ {v : V} {x : PyData}, Dv K H0 (sset .b A (owOf (Γ.set i .n) O)) v x → Dv K H (sset .b A (fun j => if j = i then some p else owOf (Γ.set i .n) O j)) v x := fun {v x} d => Dv.mono (fun a o _ q => hs a o q) (fun a n hn z => by
      rcases own' a z with z | z
      · exact n z
      · rw [z] at hn; exact hn hp0) x d
    have lessA : ∀ {vs : List V} {xs : List PyData}, DvAll K H0 (sset .p A (owOf (Γ.set i .n) O)) vs xs → DvAll K H (sset .p A (fun j => if j = i then some p else owOf (Γ.set i .n) O j)) vs xs := fun {vs xs} d => DvAll.mono (fun a o _ q => hs a o q) (fun a n hn z => by
      rcases z with z | z
      · exact n (.inl z)
      · rcases own' a z with z | z
        · exact n (.inr z)
        · rw [z] at hn; exact hn hp0) xs d
    refine ⟨fun j => if j = i then some p else owOf (Γ.set i .n) O j, ⟨fun a o _ q => hs a o q, fun q z => ?_, fun a q => same_some hs q⟩, ⟨⟨c.same.trans hs, fun a z => same_some hs (c.an' a z), fun a z y => ?_, fun j a ej => ?_, fun j a ej => ?_, fun j1 j2 a e1 e2 => ?_, tabs_same hs c.tabs⟩, ?_, ?_, fun j k hj hn => ?_, fun j a ej => ?_⟩, fun q z => ?_⟩
    · rcases own' q z with z | z
      · exact .inl (owOf_own z)
      · rw [z]; exact .inr hp0
    · rcases own' a y with y | y
      · exact c.ao' a z (owOf_own y)
      · rw [y] at z; exact hb z
    · split at ej
      · cases ej; exact hz
      · exact w0.cor.ob j a ej
    · split at ej
      · cases ej; rw [e]; simp
      · exact w.cor.oh j a ej
    · split at e1 <;> split at e2
      · rename_i h1 h2; rw [h1, h2]
      · cases e1; exact absurd ⟨j2, e2⟩ ho'
      · cases e2; exact absurd ⟨j1, e1⟩ ho'
      · exact w0.cor.inj _ _ _ e1 e2
    · rw [List.length_set, List.length_set]; exact si.len
    · rw [List.length_set, List.length_set]; exact si.lenS
    · by_cases hji : j = i
      · subst hji
        have : k = .o := by simpa [hi] using hj.symm
        subst this
        refine ⟨.ref p, .list xs, by simp [hls], by simp [hle], p, vs, xs, by simp, rfl, rfl, e, hd.less fun b z => ?_⟩
        rcases z with z | z
        · exact .inl (.inl z)
        · rcases own' b z with z | z
          · exact .inl (.inr (owOf_own z))
          · exact .inr z
      · have hj' : (Γ.set i .n)[j]? = some k := by rw [List.getElem?_set_ne (Ne.symm hji)] at hj ⊢; exact hj
        obtain ⟨v, x, h1, h2, h3⟩ := w0.slot j k hj' hn
        refine ⟨v, x, by rw [List.getElem?_set_ne (Ne.symm hji)]; exact h1, by rw [List.getElem?_set_ne (Ne.symm hji)]; exact h2, ?_⟩
        cases k with
        | n => trivial
        | d => exact lessP h3
        | b => exact lessB h3
        | o =>
          obtain ⟨a, us, ys, e1, e2, e3, e4, e5⟩ := h3
          refine ⟨a, us, ys, ?_, e2, e3, hs _ _ e4, lessA e5⟩
          simp only
          rw [if_neg hji]
          exact e1
    · split at ej
      · rename_i h; rw [h]; simp [hi]
      · rename_i h
        have q := w0.owns j a ej
        rw [List.getElem?_set_ne (Ne.symm h)] at q ⊢
        exact q
    · rcases own' q z with z | z
      · exact .inl (owOf_own z)
      · rw [z]; exact .inr ⟨rfl, rfl⟩
  · have hko : k ≠ .o := by
      cases fl <;> cases hk <;> first | exact absurd rfl hf | (intro z; cases z)
    refine ⟨owOf (Γ.set i .n) O, (Step.of_same hs).trans Step.owOf, ?_, fun q z => .inl (owOf_own z)⟩
    rw [← hset]
    refine w.put hni (by simp) hko fun hn => ?_
    cases fl with
    | p => cases hk; exact Dv.less r (fun a z => z.imp id owOf_own)
    | b => cases hk; exact Dv.less r (fun a z => owOf_own z)
    | f => exact absurd rfl hf
    | _ => cases hk

/-! ### the base heap, as it may be taken: all but the own lists -/
noncomputable def cut (O : Ow) (H : Hp) : Hp := fun a => open Classical in if own O a then none else H a
theorem cut_own {O : Ow} {H : Hp} {a : Addr} (h : own O a) : cut O H a = none := by
  unfold cut
  exact if_pos h
theorem cut_ne {O : Ow} {H : Hp} {a : Addr} (h : ¬ own O a) : cut O H a = H a := by
  unfold cut
  exact if_neg h
theorem cut_le {O : Ow} {H : Hp} : ∀ a o, cut O H a = some o → H a = some o := fun a o e => by
  by_cases h : own O a
  · rw [cut_own h] at e; cases e
  · rw [cut_ne h] at e; exact e
theorem cut_same {O : Ow} {H : Hp} : Same (cut O H) H := fun a o e => .of (cut_le a o e) fun _ t => t.ext cut_le
theorem cut_tab {O : Ow} {H : Hp} (hl : ∀ i b, O i = some b → ∃ ws, H b = some (.lst ws)) {b : Addr} {q : Str} (t : LamX.TabS H b q) : LamX.TabS (cut O H) b q := by
  have key : ∀ a o, H a = some o → (∀ ws, o ≠ .lst ws) → cut O H a = some o := fun a o e n => by
    have : ¬ own O a := fun ⟨i, z⟩ => by
      obtain ⟨ws, e2⟩ := hl i a z
      rw [e] at e2
      exact n ws (Option.some.inj e2)
    rw [cut_ne this]
    exact e
  obtain ⟨ps, h1, h2, h3⟩ := t
  refine ⟨ps, key _ _ h1 (by simp), h2, fun pos cv hc => ?_⟩
  obtain ⟨c, e1, e2⟩ := h3 pos cv hc
  exact ⟨c, e1, key _ _ e2 (by unfold LamX.CodeO; simp)⟩
theorem same_cut {O : Ow} (c : Cor A B O H) (hl : ∀ i b, O i = some b → ∃ ws, H b = some (.lst ws)) : Same B (cut O H) := fun a o e => by
  have : ¬ own O a := fun ⟨i, z⟩ => by rw [c.ob i a z] at e; cases e
  exact (c.same a o e).trans fun o' e' => .of (by rw [cut_ne this]; exact e') fun _ t => cut_tab hl t
theorem Sim.cut {K : PySem.W.Frag} {O : Ow} {H : Hp} {env : En} {σ : L2.St} (m : Sim K Γ A B O H env σ) : Sim K Γ A (PD.cut O H) O H env σ :=
  ⟨⟨cut_same, m.cor.an', m.cor.ao', fun i a e => cut_own ⟨i, e⟩, m.cor.oh, m.cor.inj, m.cor.tabs⟩, m.len, m.lenS, m.slot, m.owns⟩
theorem XOk.cut {K : PySem.W.Frag} {O : Ow} {H : Hp} {c : Str} {x : PyData} (cr : Cor A B O H) (hl : ∀ i b, O i = some b → ∃ ws, H b = some (.lst ws)) (h : XOk K A B E c x) : XOk K A (PD.cut O H) E c x := fun H' d v s hd e1 e2 => h H' d v ((same_cut cr hl).trans s) (by
  cases e : B d with
  | none => rfl
  | some o => exact absurd hd (same_cut cr hl d o e).some) e1 e2
theorem XOk.more {K : PySem.W.Frag} {c : Str} {x : PyData} {A' : Addr → Prop} (ha : ∀ a, A a → A' a) (h : XOk K A B E c x) : XOk K A' B E c x := fun H' d v s hd e1 e2 => h H' d v s hd e1 (e2.less ha)
theorem VRel.base {K : PySem.W.Frag} {O : Ow} {H : Hp} {B' : Hp} {v : V} {x : PyData} (h : VRel K fl A B' O H v x) (hb : ∀ p, fl = .f → v = .ref p → B p = none) : VRel K fl A B O H v x := by
  cases fl with
  | f =>
    obtain ⟨p, vs, xs, rfl, rfl, e, hz, q⟩ := h
    exact ⟨p, vs, xs, rfl, rfl, e, hb p rfl rfl, q⟩
  | _ => exact h
/-- an expression, a list that it makes is new -/
def tN (K : PySem.W.Frag) (Γ : List Kd) (A : Addr → Prop) (B : Hp) (E : XK) (fl : Fl) (m : ME) : TE := fun σ H Q => ∃ O env, Sim K Γ A B O H env σ ∧ match m env with
  | .ok x => ∀ v H', Same H H' → VRel K fl A B O H' v x → (fl = .f → ∀ p, v = .ref p → H p = none) → Q v H'
  | .exc c x => XOk K A B E c x
  | .bad => False
theorem j_new (h : ∀ B, PE X e (tE X.K Γ A B E fl a)) : PE X e (tN X.K Γ A B E fl a) := by
  refine ⟨fun pins s σ H Q I ⟨O, env, si, q⟩ => (h (PD.cut O H)).run pins s σ H Q I ⟨O, env, si.cut, ?_⟩⟩
  cases e1 : a env with
  | bad => rw [e1] at q; exact q
  | exc c x => rw [e1] at q; exact q.cut si.cor si.lists
  | ok x =>
    rw [e1] at q
    refine fun v H1 s1 r1 => ?_
    have nw : ∀ p, fl = .f → v = .ref p → H p = none := fun p hf hv => by
      subst hf
      obtain ⟨p', vs, xs, e0, rfl, e, hz, hb, ho, hd⟩ := r1
      rw [hv] at e0
      cases e0
      rw [cut_ne ho] at hz
      exact hz
    exact q v H1 s1 (r1.base fun p hf hv => si.cor.bn (nw p hf hv)) fun hf p hv => nw p hf hv

/-! ### names are set -/
theorem s_set {i : Nat} {x : Str} {pos' : Pos} {k : Kd} (hN : X.N.Nodup) (hi : X.N[i]? = some x) (hx : Loc X.env.scope x) (hl : Nat.blt i Γ.length = true) (hk : kdS fl = some k) (h : ∀ B, PE X e (tE X.K Γ A B E fl a))
    (hs : swapsWith e (some (.Name x pos')) pos.line X.env = pure false := by rfl) (hf : X.fn x = true ∨ X.env.scope.names.lookup x = some .local := by first | exact .inl rfl | exact .inr rfl | assumption) :
    PS X (.Assign [.Name x pos'] e pos) (tS X.K Γ (Γ.set i k) A B E rk (mSet i a)) := by
  refine ⟨fun pins s σ H D I ⟨O, env, si, q⟩ => (ps_set hN hi hx (j_new h) hs hf).run pins s σ H D I ⟨O, env, si, ?_⟩⟩
  unfold mSet at q
  cases e1 : a env with
  | bad => rw [e1] at q; exact q
  | exc c x => rw [e1] at q; exact q
  | ok x =>
    rw [e1] at q
    refine fun v H1 s1 r1 nw => ?_
    obtain ⟨O', st, si', _⟩ := si.put1 s1 (Nat.le_of_ble_eq_true hl) hk r1 nw
    exact q O' _ H1 st si'
theorem s_asg {tg : Expr} {g : MG} {vs : List Nat} (h : PE X e (tE X.K Γ A B E fl a)) (hg : PG X tg (tG X.K Γ Γ' A B vs fl g)) (hs : swapsWithSole [tg] e pos.line X.env = pure false := by rfl) (hw : swappedStores [tg] e X.env = pure none := by rfl)
    (h1 : (assignEach [tg] X.env).map (·.2) = [assign tg X.env] := by rfl) : PS X (.Assign [tg] e pos) (tS X.K Γ Γ' A B E rk (mAsg a g)) := by
  refine ⟨fun pins s σ H D I ⟨O, env, si, q⟩ => (ps_asg h hg hs hw h1).run pins s σ H D I ⟨O, env, si, ?_⟩⟩
  unfold mAsg at q
  cases e1 : a env with
  | bad => rw [e1] at q; exact q
  | exc c x => rw [e1] at q; exact q
  | ok x =>
    rw [e1] at q
    refine fun v H1 s1 r1 => ⟨O, env, x, si.up s1, r1, ?_⟩
    simp only [Res.bind] at q
    cases e2 : g x env with
    | none => rw [e2] at q; exact q
    | some env' =>
      rw [e2] at q
      exact fun σ' si' _ => q O σ' H1 (Step.of_same s1) si'
end
end PD
set_option maxHeartbeats 2000000
/-! PD 12: pairs of names, own lists changed, loops. -/
namespace PD
open PySem PySem.Spec PyProof.Rows L2 PySem.W
section
variable {X : Cx} {Γ Γ1 Γ2 Γ' : List Kd} {A : Addr → Prop} {B : Hp} {E : XK} {rk : Fl} {st : Stmt} {rest : List Stmt} {m n : MS} {e : Expr} {a b : ME} {fl f1 f2 f3 : Fl} {pos : Pos}
theorem VRel.shift {K : PySem.W.Frag} {O O' : Ow} {H : Hp} {A' : Addr → Prop} {v : V} {x : PyData} (hf : fl = .p ∨ fl = .f) (h : ∀ q, A q ∨ own O' q → A' q ∨ own O q) (r : VRel K fl A' B O H v x) : VRel K fl A B O' H v x := by
  rcases hf with rfl | rfl
  · exact Dv.less r h
  · obtain ⟨p, vs, xs, rfl, rfl, e, hz, hb, ho, hd⟩ := r
    refine ⟨p, vs, xs, rfl, rfl, e, hz, fun z => ?_, fun z => ?_, hd.less fun q z => z.imp (h q) id⟩
    · rcases h p (.inl z) with w | w
      · exact hb w
      · exact ho w
    · rcases h p (.inr z) with w | w
      · exact hb w
      · exact ho w
/-- a list that the first makes -/
def newOf (fl : Fl) (v : V) (q : Addr) : Prop := fl = .f ∧ v = .ref q
theorem Sim.moreF {K : PySem.W.Frag} {O : Ow} {H H' : Hp} {env : En} {σ : L2.St} {v : V} {x : PyData} (m : Sim K Γ A B O H env σ) (s : Same H H') (r : VRel K fl A B O H' v x) (nw : fl = .f → ∀ p, v = .ref p → H p = none) : Sim K Γ (fun q => A q ∨ newOf fl v q) B O H' env σ := by
  by_cases hf : fl = .f
  · subst hf
    obtain ⟨p, vs, xs, rfl, rfl, e, hz, hb, ho, hd⟩ := r
    have e1 : (fun q => A q ∨ newOf .f (V.ref p) q) = fun q => A q ∨ q = p := by
      funext q
      unfold newOf
      simp [eq_comm]
    rw [e1]
    exact m.more (nw rfl p rfl) s (by rw [e]; simp)
  · have e1 : (fun q => A q ∨ newOf fl v q) = A := by
      funext q
      unfold newOf
      simp [hf]
    rw [e1]
    exact m.up s
def Fl.pf : Fl → Bool
  | .p => true
  | .f => true
  | _ => false
theorem pf_or {f : Fl} (h : f.pf = true) : f = .p ∨ f = .f := by cases f <;> simp_all [Fl.pf]
/-- several things told, each before the next -/
def tQ (K : PySem.W.Frag) (Γ : List Kd) (A : Addr → Prop) (B : Hp) (E : XK) (fl : Fl) (m : ME) : TE := tN K Γ A B E fl m
def mPar2 (i j : Nat) (a b : ME) : MS := fun env => (a env).bind fun x => (b env).bind fun y => .ok (.next ((env.set i x).set j y))
def mPar3 (i j l : Nat) (a b c : ME) : MS := fun env => (a env).bind fun x => (b env).bind fun y => (c env).bind fun z => .ok (.next (((env.set i x).set j y).set l z))
theorem s_par {i j : Nat} {x y : Str} {ea eb : Expr} {px py pt : Pos} {kt k2 : Nat} {pt2 : Pos} {ki kj : Kd} (hc : X.calm = true) (hN : X.N.Nodup) (hi : X.N[i]? = some x) (hj : X.N[j]? = some y) (hij : i ≠ j)
    (hx : X.env.scope.names.lookup x = some .local) (hy : X.env.scope.names.lookup y = some .local) (hli : Nat.blt i Γ.length = true) (hlj : Nat.blt j Γ.length = true) (hki : kdS f1 = some ki) (hkj : kdS f2 = some kj) (h2 : f2.pf = true)
    (ha : ∀ B, PE X ea (tE X.K Γ A B E f1 a)) (hb : ∀ A B, PE X eb (tE X.K Γ A B E f2 b))
    (hw : swappedStores [.Tuple [.Name x px, .Name y py] kt pt] (.Tuple [ea, eb] k2 pt2) X.env = pure (some [x, y]) := by rfl)
    (hs : swapsWithSole [.Tuple [.Name x px, .Name y py] kt pt] (.Tuple [ea, eb] k2 pt2) pos.line X.env = pure false := by rfl)
    (hs1 : starEach [ea, eb] X.env = (false, eval ea X.env) :: starEach [eb] X.env := by rfl) (hs2 : starEach [eb] X.env = (false, eval eb X.env) :: starEach [] X.env := by rfl) :
    PS X (.Assign [.Tuple [.Name x px, .Name y py] kt pt] (.Tuple [ea, eb] k2 pt2) pos) (tS X.K Γ ((Γ.set i ki).set j kj) A B E rk (mPar2 i j a b)) := by
  have hP := ps_par (pos := pos) (px := px) (py := py) (pt := pt) (kt := kt) (k2 := k2) (pt2 := pt2) hc hN hi hj hij hx hy (pa_cons (j_new (B := B) ha) (pa_cons (x_e (t := fun A' => tN X.K Γ A' B E f2 b) fun A' => j_new (B := B) (hb A')) pa_nil hs2) hs1) hw hs
  refine ⟨fun pins s σ H D I ⟨O, env, si, q⟩ => hP.run pins s σ H D I ⟨O, env, si, ?_⟩⟩
  unfold mPar2 at q
  cases e1 : a env with
  | bad => rw [e1] at q; exact q
  | exc c x => rw [e1] at q; exact q
  | ok x1 =>
    rw [e1] at q
    refine fun v H1 s1 r1 nw1 => ?_
    simp only [Res.bind] at q
    refine ⟨fun q => A q ∨ newOf f1 v q, O, env, si.moreF s1 r1 nw1, ?_⟩
    cases e2 : b env with
    | bad => rw [e2] at q; exact q
    | exc c x => rw [e2] at q; exact q.more fun a z => .inl z
    | ok x2 =>
      rw [e2] at q
      refine fun u H2 s2 r2 nw2 => ⟨v, u, rfl, ?_⟩
      obtain ⟨O1, st1, si1, ow1⟩ := si.put1 s1 (Nat.le_of_ble_eq_true hli) hki r1 nw1
      have r2' : VRel X.K f2 A B O1 H2 u x2 := r2.shift (pf_or h2) fun q z => by
        rcases z with z | z
        · exact .inl (.inl z)
        · rcases ow1 q z with z | z
          · exact .inr z
          · exact .inl (.inr z)
      obtain ⟨O2, st2, si2, _⟩ := si1.put1 s2 (by rw [List.length_set]; exact Nat.le_of_ble_eq_true hlj) hkj r2' nw2
      exact q O2 _ H2 (st1.trans st2) si2
theorem s_par3 {i j l : Nat} {x y w : Str} {ea eb ec : Expr} {c : ME} {px py pz pt : Pos} {kt k2 : Nat} {pt2 : Pos} {ki kj kl : Kd} (hc : X.calm = true) (hN : X.N.Nodup) (hi : X.N[i]? = some x) (hj : X.N[j]? = some y) (hl : X.N[l]? = some w) (hij : i ≠ j) (hil : i ≠ l) (hjl : j ≠ l)
    (hx : X.env.scope.names.lookup x = some .local) (hy : X.env.scope.names.lookup y = some .local) (hz : X.env.scope.names.lookup w = some .local) (hli : Nat.blt i Γ.length = true) (hlj : Nat.blt j Γ.length = true) (hll : Nat.blt l Γ.length = true)
    (hki : kdS f1 = some ki) (hkj : kdS f2 = some kj) (hkl : kdS f3 = some kl) (h2 : f2.pf = true) (h3 : f3.pf = true)
    (ha : ∀ B, PE X ea (tE X.K Γ A B E f1 a)) (hb : ∀ A B, PE X eb (tE X.K Γ A B E f2 b)) (hcc : ∀ A B, PE X ec (tE X.K Γ A B E f3 c))
    (hw : swappedStores [.Tuple [.Name x px, .Name y py, .Name w pz] kt pt] (.Tuple [ea, eb, ec] k2 pt2) X.env = pure (some [x, y, w]) := by rfl)
    (hs : swapsWithSole [.Tuple [.Name x px, .Name y py, .Name w pz] kt pt] (.Tuple [ea, eb, ec] k2 pt2) pos.line X.env = pure false := by rfl)
    (hs1 : starEach [ea, eb, ec] X.env = (false, eval ea X.env) :: starEach [eb, ec] X.env := by rfl) (hs2 : starEach [eb, ec] X.env = (false, eval eb X.env) :: starEach [ec] X.env := by rfl) (hs3 : starEach [ec] X.env = (false, eval ec X.env) :: starEach [] X.env := by rfl) :
    PS X (.Assign [.Tuple [.Name x px, .Name y py, .Name w pz] kt pt] (.Tuple [ea, eb, ec] k2 pt2) pos) (tS X.K Γ (((Γ.set i ki).set j kj).set l kl) A B E rk (mPar3 i j l a b c)) := by
  have hP := ps_par3 (pos := pos) (px := px) (py := py) (pz := pz) (pt := pt) (kt := kt) (k2 := k2) (pt2 := pt2) hc hN hi hj hl hij hil hjl hx hy hz (pa_cons (j_new (B := B) ha) (pa_cons (x_e (t := fun A' => tN X.K Γ A' B E f2 b) fun A' => j_new (B := B) (hb A')) (pa_cons (x_e (t := fun A' => tN X.K Γ A' B E f3 c) fun A' => j_new (B := B) (hcc A')) pa_nil hs3) hs2) hs1) hw hs
  refine ⟨fun pins s σ H D I ⟨O, env, si, q⟩ => hP.run pins s σ H D I ⟨O, env, si, ?_⟩⟩
  unfold mPar3 at q
  cases e1 : a env with
  | bad => rw [e1] at q; exact q
  | exc c x => rw [e1] at q; exact q
  | ok x1 =>
    rw [e1] at q
    refine fun v H1 s1 r1 nw1 => ?_
    simp only [Res.bind] at q
    have sj := si.moreF s1 r1 nw1
    refine ⟨fun q => A q ∨ newOf f1 v q, O, env, sj, ?_⟩
    cases e2 : b env with
    | bad => rw [e2] at q; exact q
    | exc c x => rw [e2] at q; exact q.more fun a z => .inl z
    | ok x2 =>
      rw [e2] at q
      refine fun u H2 s2 r2 nw2 => ?_
      simp only [Res.bind] at q
      refine ⟨fun q => (A q ∨ newOf f1 v q) ∨ newOf f2 u q, O, env, sj.moreF s2 r2 nw2, ?_⟩
      cases e3 : c env with
      | bad => rw [e3] at q; exact q
      | exc c x => rw [e3] at q; exact q.more fun a z => .inl (.inl z)
      | ok x3 =>
        rw [e3] at q
        refine fun t H3 s3 r3 nw3 => ⟨v, u, t, rfl, ?_⟩
        obtain ⟨O1, st1, si1, ow1⟩ := si.put1 s1 (Nat.le_of_ble_eq_true hli) hki r1 nw1
        have r2' : VRel X.K f2 A B O1 H2 u x2 := r2.shift (pf_or h2) fun q z => by
          rcases z with z | z
          · exact .inl (.inl z)
          · rcases ow1 q z with z | z
            · exact .inr z
            · exact .inl (.inr z)
        obtain ⟨O2, st2, si2, ow2⟩ := si1.put1 s2 (by rw [List.length_set]; exact Nat.le_of_ble_eq_true hlj) hkj r2' nw2
        have r3' : VRel X.K f3 A B O2 H3 t x3 := r3.shift (pf_or h3) fun q z => by
          rcases z with z | z
          · exact .inl (.inl (.inl z))
          · rcases ow2 q z with z | z
            · rcases ow1 q z with z | z
              · exact .inr z
              · exact .inl (.inl (.inr z))
            · exact .inl (.inr z)
        obtain ⟨O3, st3, si3, _⟩ := si2.put1 s3 (by rw [List.length_set, List.length_set]; exact Nat.le_of_ble_eq_true hll) hkl r3' nw3
        exact q O3 _ H3 ((st1.trans st2).trans st3) si3

/-! ### own lists are changed -/
/-- an own list gets other items, of data for good -/
theorem Sim.relist {K : PySem.W.Frag} {O : Ow} {H : Hp} {env : En} {σ : L2.St} {i : Nat} {p : Addr} {vs : List V} {xs : List PyData} (si : Sim K Γ A B O H env σ) (ho : O i = some p) (hd : DvAll K H (sset .p A O) vs xs) :
    Step O H O (upd H p (.lst vs)) ∧ Sim K Γ A B O (upd H p (.lst vs)) (env.set i (.list xs)) σ := by
  have c := si.cor
  have hop : own O p := ⟨i, ho⟩
  obtain ⟨ws, hp⟩ := si.lists i p ho
  have at_ : ∀ a o, ¬ own O a → H a = some o → Tk H (upd H p (.lst vs)) a o := fun a o h e => tk_lst hp (fun z => h (by rw [z]; exact hop)) e
  have hΓ := si.owns i p ho
  have keepP : ∀ {v : V} {x : PyData}, Dv K H (sset .p A O) v x → Dv K (upd H p (.lst vs)) (sset .p A O) v x := fun {v x} d => Dv.mono (fun a o n q => at_ a o (fun z => n (.inr z)) q) (fun a n _ z => n z) x d
  have keepB : ∀ {v : V} {x : PyData}, Dv K H (sset .b A O) v x → Dv K (upd H p (.lst vs)) (sset .b A O) v x := fun {v x} d => Dv.mono (fun a o n q => at_ a o n q) (fun a n _ z => n z) x d
  have keepA : ∀ {vs' : List V} {xs : List PyData}, DvAll K H (sset .p A O) vs' xs → DvAll K (upd H p (.lst vs)) (sset .p A O) vs' xs := fun {vs' xs} d => DvAll.mono (fun a o n q => at_ a o (fun z => n (.inr z)) q) (fun a n _ z => n z) xs d
  have some' : ∀ a, H a ≠ none → upd H p (.lst vs) a ≠ none := fun a h => by
    by_cases e : a = p
    · rw [e, upd_same]; simp
    · rw [upd_ne e]; exact h
  refine ⟨⟨fun a o n q => at_ a o n q, fun a z => .inl z, some'⟩, ⟨⟨fun a o q => ?_, fun a z => some' a (c.an' a z), c.ao', c.ob, fun j a e => some' a (c.oh j a e), c.inj, tabs_lst hp c.tabs⟩, by rw [List.length_set]; exact si.len, si.lenS, fun j k hj hn => ?_, si.owns⟩⟩
  · have : a ≠ p := fun z => by rw [z, c.ob i p ho] at q; cases q
    exact (c.same a o q).trans fun o' e' => tk_lst hp this e'
  · by_cases hji : j = i
    · subst hji
      rw [hΓ] at hj
      cases hj
      obtain ⟨v, x, h1, h2, a, us, ys, e1, e2, e3, e4, e5⟩ := si.slot j .o hΓ hn
      rw [ho] at e1
      cases e1
      have hlt : j < env.length := (List.getElem?_eq_some_iff.mp h2).1
      exact ⟨v, .list xs, h1, by simp [hlt], p, vs, xs, ho, e2, rfl, upd_same, keepA hd⟩
    · obtain ⟨v, x, h1, h2, h3⟩ := si.slot j k hj hn
      refine ⟨v, x, h1, by rw [List.getElem?_set_ne (Ne.symm hji)]; exact h2, ?_⟩
      cases k with
      | n => trivial
      | d => exact keepP h3
      | b => exact keepB h3
      | o =>
        obtain ⟨a, us, ys, e1, e2, e3, e4, e5⟩ := h3
        have : a ≠ p := fun z => hji (c.inj _ _ _ e1 (by rw [z]; exact ho))
        exact ⟨a, us, ys, e1, e2, e3, by rw [upd_ne this]; exact e4, keepA e5⟩
/-- the list in slot i -/
theorem Sim.ownAt {K : PySem.W.Frag} {O : Ow} {H : Hp} {env : En} {σ : L2.St} {i : Nat} (si : Sim K Γ A B O H env σ) (h : Γ[i]? = some .o) : ∃ (p : Addr) (vs : List V) (xs : List PyData), O i = some p ∧ σ[i]? = some (some (.ref p)) ∧ env[i]? = some (.list xs) ∧ H p = some (.lst vs) ∧ DvAll K H (sset .p A O) vs xs := by
  obtain ⟨v, x, h1, h2, a, vs, xs, e1, rfl, rfl, e4, e5⟩ := si.slot i .o h (by simp)
  exact ⟨a, vs, xs, e1, h1, h2, e4, e5⟩
def asL : PyData → Option (List PyData)
  | .list xs => some xs
  | _ => none
def room1 (xs : List PyData) : Bool := Nat.blt xs.length 16777216
def mApp (i : Nat) (a : ME) : MS := fun env => (Res.opt (env[i]?)).bind fun l => (Res.opt (asL l)).bind fun xs => (a env).bind fun x => match room1 xs with
  | true => .ok (.next (env.set i (.list (xs ++ [x]))))
  | false => .bad
theorem tyL {K : PySem.W.Frag} {H : Hp} {p : Addr} {vs : List V} (h : H p = some (.lst vs)) : tyV K "list" (.ref p) H := .inl ⟨rfl, vs, .inl (.inl h)⟩
theorem s_app {i : Nat} {x : Str} {px apos cpos : Pos} (hf : fl = .p ∨ fl = .f) (hi : Γ[i]? = some .o) (ho : PE X (.Name x px) (tVar i)) (ha : PE X e (tE X.K Γ A B E fl a))
    (hbase : attributeBase (.Name x px) "append" X.env (eval (.Name x px) X.env) = eval (.Name x px) X.env := by rfl)
    (hfew : ((backTo cpos (starEach [e] X.env)).all (fun x => !x.1) && (backToKw cpos (keywordEach [] X.env)).all (fun x => x.1.isSome)
      && decide ([e].length + ([] : List Keyword).length + (if ([] : List Keyword).isEmpty then 0 else 1) < 30)) = true := by rfl)
    (hline : (apos.endLine == cpos.line) = true := by rfl) (hs : starEach [e] X.env = (false, eval e X.env) :: starEach [] X.env := by rfl) (hplain : (backTo cpos (starEach [] X.env)).any (·.1) = false := by rfl)
    (hsw : swapsWith (.Call (.Attribute (.Name x px) "append" apos) [e] [] cpos) none pos.line X.env = pure false := by rfl) :
    PS X (.Expr (.Call (.Attribute (.Name x px) "append" apos) [e] [] cpos) pos) (tS X.K Γ Γ A B E rk (mApp i a)) := by
  have hP := ps_expr (pos := pos) (pe_bm PySem.F.plainAttrs_list PySem.F.slot_list_append PySem.F.type_list_append mt_append ho (pa_cons ha pa_nil hs) hbase hfew hline hs hplain) hsw
  refine ⟨fun pins s σ H D I ⟨O, env, si, q⟩ => hP.run pins s σ H D I ?_⟩
  obtain ⟨p, vs, xs, h1, h2, h3, h4, h5⟩ := si.ownAt hi
  refine ⟨_, h2, tyL h4, O, env, si, ?_⟩
  unfold mApp at q
  rw [h3] at q
  cases e1 : a env with
  | bad => simp only [Res.bind, Res.opt, asL, e1] at q
  | exc c x => simp only [Res.bind, Res.opt, asL, e1] at q; exact q
  | ok y =>
    simp only [Res.bind, Res.opt, asL, e1] at q
    cases e2 : room1 xs with
    | false => simp only [e2] at q
    | true =>
      simp only [e2] at q
      refine fun v H1 s1 r1 => ?_
      have hy : Dv X.K H1 (sset .p A O) v y := by
        rcases hf with rfl | rfl
        · exact r1
        · exact VRel.fresh_p (si.cor.up s1) r1
      have hl := h5.length
      have hle : xs.length < 16777216 := Nat.le_of_ble_eq_true e2
      refine ⟨p, vs, v, rfl, rfl, s1 _ _ h4, by rw [hl, sizeLine_eq]; exact hle, ?_⟩
      obtain ⟨st, si'⟩ := (si.up s1).relist h1 ((h5.same s1).append (.cons hy .nil))
      exact q O σ _ ((Step.of_same s1).trans st) si'
def room2 (xs ys : List PyData) : Bool := Nat.ble (xs.length + ys.length) 16777216
def mExt (i : Nat) (a : ME) : MS := fun env => (Res.opt (env[i]?)).bind fun l => (Res.opt (asL l)).bind fun xs => (a env).bind fun y => (Res.opt (asL y)).bind fun ys => match room2 xs ys with
  | true => .ok (.next (env.set i (.list (xs ++ ys))))
  | false => .bad
theorem s_ext {i : Nat} {x : Str} {px apos cpos : Pos} (hi : Γ[i]? = some .o) (ho : PE X (.Name x px) (tVar i)) (ha : PE X e (tE X.K Γ A B E .f a))
    (hbase : attributeBase (.Name x px) "extend" X.env (eval (.Name x px) X.env) = eval (.Name x px) X.env := by rfl)
    (hfew : ((backTo cpos (starEach [e] X.env)).all (fun x => !x.1) && (backToKw cpos (keywordEach [] X.env)).all (fun x => x.1.isSome)
      && decide ([e].length + ([] : List Keyword).length + (if ([] : List Keyword).isEmpty then 0 else 1) < 30)) = true := by rfl)
    (hline : (apos.endLine == cpos.line) = true := by rfl) (hs : starEach [e] X.env = (false, eval e X.env) :: starEach [] X.env := by rfl) (hplain : (backTo cpos (starEach [] X.env)).any (·.1) = false := by rfl)
    (hsw : swapsWith (.Call (.Attribute (.Name x px) "extend" apos) [e] [] cpos) none pos.line X.env = pure false := by rfl) :
    PS X (.Expr (.Call (.Attribute (.Name x px) "extend" apos) [e] [] cpos) pos) (tS X.K Γ Γ A B E rk (mExt i a)) := by
  have hP := ps_expr (pos := pos) (pe_bm PySem.F.plainAttrs_list PySem.F.slot_list_extend PySem.F.type_list_extend mt_extend ho (pa_cons ha pa_nil hs) hbase hfew hline hs hplain) hsw
  refine ⟨fun pins s σ H D I ⟨O, env, si, q⟩ => hP.run pins s σ H D I ?_⟩
  obtain ⟨p, vs, xs, h1, h2, h3, h4, h5⟩ := si.ownAt hi
  refine ⟨_, h2, tyL h4, O, env, si, ?_⟩
  unfold mExt at q
  rw [h3] at q
  cases e1 : a env with
  | bad => simp only [Res.bind, Res.opt, asL, e1] at q
  | exc c x => simp only [Res.bind, Res.opt, asL, e1] at q; exact q
  | ok y =>
    simp only [Res.bind, Res.opt, asL, e1] at q
    refine fun v H1 s1 r1 => ?_
    obtain ⟨p2, us, ys, rfl, rfl, e3, hz, hb, ho2, hd⟩ := r1
    simp only at q
    cases e2 : room2 xs ys with
    | false => simp only [e2] at q
    | true =>
      simp only [e2] at q
      have hl := h5.length
      have hl2 := hd.length
      have hle : xs.length + ys.length ≤ 16777216 := Nat.le_of_ble_eq_true e2
      refine ⟨p, p2, vs, us, rfl, rfl, s1 _ _ h4, e3, by rw [hl, hl2, sizeLine_eq]; exact hle, ?_⟩
      obtain ⟨st, si'⟩ := (si.up s1).relist h1 ((h5.same s1).append (hd.less fun b z => .inl z))
      exact q O σ _ ((Step.of_same s1).trans st) si'
/-- name[j] = e -/
def mPutI (i : Nat) (a j : ME) : MS := fun env => (a env).bind fun y => (Res.opt (env[i]?)).bind fun l => (Res.opt (asL l)).bind fun xs => (j env).bind fun k => (Res.opt (asI k)).bind fun z => (Res.opt (ixN xs.length z)).bind fun t =>
  .ok (.next (env.set i (.list (xs.set t y))))
theorem s_putI {i : Nat} {x : Str} {px tpos : Pos} {ix : Expr} {j : ME} (hf : fl = .p ∨ fl = .f) (hi : Γ[i]? = some .o) (ho : PE X (.Name x px) (tVar i)) (ha : PE X e (tE X.K Γ A B E fl a)) (hj : PE X ix (tE X.K Γ A B E f2 j))
    (has : ∀ v, assign (.Subscript (.Name x px) ix tpos) X.env v = (do
      let ov ← holding [v] (eval (.Name x px) X.env)
      let iv ← holding [v, ov] (eval ix X.env)
      standAt tpos
      holding [v, ov, iv] (setItem ov iv v)
      release [v, ov, iv] []) := by intro _; rfl)
    (hs : swapsWithSole [.Subscript (.Name x px) ix tpos] e pos.line X.env = pure false := by rfl) (hw : swappedStores [.Subscript (.Name x px) ix tpos] e X.env = pure none := by rfl)
    (h1 : (assignEach [.Subscript (.Name x px) ix tpos] X.env).map (·.2) = [assign (.Subscript (.Name x px) ix tpos) X.env] := by rfl) :
    PS X (.Assign [.Subscript (.Name x px) ix tpos] e pos) (tS X.K Γ Γ A B E rk (mPutI i a j)) := by
  have hP := ps_asg (pos := pos) ha (pg_sub ho hj set_list has) hs hw h1
  refine ⟨fun pins s σ H D I ⟨O, env, si, q⟩ => hP.run pins s σ H D I ⟨O, env, si, ?_⟩⟩
  obtain ⟨p, vs, xs, h1, h2, h3, h4, h5⟩ := si.ownAt hi
  unfold mPutI at q
  cases e1 : a env with
  | bad => rw [e1] at q; exact q
  | exc c x => rw [e1] at q; exact q
  | ok y =>
    simp only [e1, Res.bind, Res.opt, h3, asL] at q
    refine fun v H1 s1 r1 => ⟨_, h2, O, env, si.up s1, ?_⟩
    have hy : Dv X.K H1 (sset .p A O) v y := by
      rcases hf with rfl | rfl
      · exact r1
      · exact VRel.fresh_p (si.cor.up s1) r1
    cases e2 : j env with
    | bad => simp only [e2] at q
    | exc c x => simp only [e2] at q; exact q
    | ok k =>
      simp only [e2] at q
      refine fun u H2 s2 r2 => ?_
      cases e3 : asI k with
      | none => simp only [e3] at q
      | some z =>
        simp only [e3] at q
        cases k with
        | int k =>
          cases e3
          cases e4 : ixN xs.length z with
          | none => simp only [e4] at q
          | some t =>
            simp only [e4] at q
            cases r2.any (si.cor.up (s1.trans s2))
            have hl := h5.length
            refine ⟨p, vs, z, t, rfl, rfl, s2 _ _ (s1 _ _ h4), by rw [hl]; exact e4, ?_⟩
            have s12 := s1.trans s2
            obtain ⟨st, si'⟩ := (si.up s12).relist h1 ((h5.same s12).set (hy.same s2) t)
            exact q O σ _ ((Step.of_same s12).trans st) si'
        | _ => cases e3
/-- name[j] op= e, whole numbers -/
def mAugI (f : Int → Int → Int) (i : Nat) (j a : ME) : MS := fun env => (Res.opt (env[i]?)).bind fun l => (Res.opt (asL l)).bind fun xs => (j env).bind fun k => (Res.opt (asI k)).bind fun z => (Res.opt (ixN xs.length z)).bind fun t =>
  (Res.opt (xs[t]?)).bind fun old => (Res.opt (asI old)).bind fun c => (a env).bind fun y => (Res.opt (asI y)).bind fun d => .ok (.next (env.set i (.list (xs.set t (.int (f c d))))))
theorem get_list : PGet X (rIxL X.K) := by
  intro pins s σ H x y v u Q I rx ry h
  obtain ⟨p, xs, i, z, rfl, rfl, hq, he, q⟩ := h
  cases rx
  obtain ⟨t, rfl⟩ := ry
  obtain ⟨its, r, pl, hz⟩ := I.list hq
  obtain ⟨j, h1, h2, h3, h4, h5⟩ := atI_get he
  obtain ⟨w, ew, rw'⟩ := r.get h2
  have hl := r.length
  have hn := line63
  have fin : EP X pins σ Q w s := ⟨z, H, I, rw', q⟩
  by_cases h0 : 0 ≤ i
  · have hj : i.toNat = j := Option.some.inj ((seqIndex_of h0 h5).symm.trans h1)
    exact wpAny_getItem_list pl.isList h0 (by omega) (by rw [hj]; simpa using ew) fin
  · have hj : (i + (its.toArray.size : Int)).toNat = j := by
      rw [List.size_toArray, ← hl]
      exact Option.some.inj ((seqIndex_neg (by omega) h4).symm.trans h1)
    exact wpAny_getItem_list_neg pl.isList (by omega) (by rw [List.size_toArray] <;> omega) (by omega) (by rw [hj]; simpa using ew) fin
theorem s_augI {f : Int → Int → Int} {op : Operator} {i : Nat} {x : Str} {px tpos : Pos} {ix : Expr} {j : ME} (hop : PIp X op (ipI f)) (hi : Γ[i]? = some .o) (ho : PE X (.Name x px) (tVar i)) (hj : PE X ix (tE X.K Γ A B E f2 j)) (ha : PE X e (tE X.K Γ A B E fl a))
    (has : ∀ ov iv new, augStore ix ov iv new = (do holding [new, ov, iv] (setItem ov iv new); release [new, ov, iv] []; pure .next) := by intros; rfl) :
    PS X (.AugAssign (.Subscript (.Name x px) ix tpos) op e pos) (tS X.K Γ Γ A B E rk (mAugI f i j a)) := by
  have hP := ps_augS (tpos := tpos) (pos := pos) ho hj get_list ha hop set_list has
  refine ⟨fun pins s σ H D I ⟨O, env, si, q⟩ => hP.run pins s σ H D I ?_⟩
  obtain ⟨p, vs, xs, h1, h2, h3, h4, h5⟩ := si.ownAt hi
  refine ⟨_, h2, O, env, si, ?_⟩
  unfold mAugI at q
  simp only [Res.bind, Res.opt, h3, asL] at q
  cases e2 : j env with
  | bad => simp only [e2] at q
  | exc c x => simp only [e2] at q; exact q
  | ok k =>
    simp only [e2] at q
    refine fun u H1 s1 r1 => ?_
    cases e3 : asI k with
    | none => simp only [e3] at q
    | some z =>
      simp only [e3] at q
      cases k with
      | int k =>
        cases e3
        cases e4 : ixN xs.length z with
        | none => simp only [e4] at q
        | some t =>
          simp only [e4] at q
          cases r1.any (si.cor.up s1)
          have hl := h5.length
          cases e5 : xs[t]? with
          | none => simp only [e5] at q
          | some old =>
            simp only [e5] at q
            cases e6 : asI old with
            | none => simp only [e6] at q
            | some c =>
              simp only [e6] at q
              cases old with
              | int c0 =>
                cases e6
                obtain ⟨w, hw1, hw2⟩ := (h5.same s1).get e5
                cases hw2
                have hat : atI vs z = some (.int c) := by
                  unfold atI
                  rw [hl, e4]
                  exact hw1
                refine ⟨p, vs, z, _, rfl, rfl, .inl (.inl (s1 _ _ h4)), hat, O, env, si.up s1, ?_⟩
                cases e7 : a env with
                | bad => simp only [e7] at q
                | exc c x => simp only [e7] at q; exact q
                | ok y =>
                  simp only [e7] at q
                  refine fun w H2 s2 r2 => ?_
                  cases y with
                  | int d =>
                    simp only [asI] at q
                    cases r2.any (si.cor.up (s1.trans s2))
                    have s12 := s1.trans s2
                    refine ⟨c, d, rfl, rfl, p, vs, z, t, rfl, rfl, s12 _ _ h4, by rw [hl]; exact e4, ?_⟩
                    obtain ⟨st, si'⟩ := (si.up s12).relist h1 ((h5.same s12).set (Dv.int (f c d)) t)
                    exact q O σ _ ((Step.of_same s12).trans st) si'
                  | _ => simp only [asI] at q
              | _ => cases e6
      | _ => cases e3

/-! ### for -/
def forGo (g : MG) (m : MS) (env : En) : List PyData → Res Out
  | [] => .ok (.next env)
  | x :: xs => match g x env with
    | none => .bad
    | some env1 => match m env1 with
      | .ok (.next env2) => forGo g m env2 xs
      | .ok (.ret y) => .ok (.ret y)
      | .ok (.cont _) => .bad
      | .exc c y => .exc c y
      | .bad => .bad
def mFor (it : ML) (g : MG) (m : MS) : MS := fun env => (it env).bind fun xs => forGo g m env xs
theorem s_for {tg iter : Expr} {body : List Stmt} {mit : ML} {g : MG} {vs : List Nat} (hp : PassesOwn (model X.prog X.w) X.A X.env X.xe) (hc : X.calm = true) (hi : PI X tg iter (tI true X.K Γ A B E fl mit)) (hg : PG X tg (tG X.K Γ Γ1 A B vs fl g)) (hb : PSs X body (tS X.K Γ1 Γ A B E rk m))
    (hs : ∀ x, foldedSetIterable iter X.env x = pure x := by intro _; rfl) : PS X (.For tg iter body [] pos) (tS X.K Γ Γ A B E rk (mFor mit g m)) := by
  refine ⟨fun pins s σ H D I ⟨O, env, si, q⟩ => (ps_for hp hc hi hg hb hs).run pins s σ H D I ⟨O, env, si, ?_⟩⟩
  unfold mFor at q
  cases e1 : mit env with
  | bad => rw [e1] at q; exact q
  | exc c x => rw [e1] at q; exact q
  | ok xs =>
    rw [e1] at q
    simp only [Res.bind] at q
    intro J H1 s1 dit
    let goal : Ow → Hp → Res Out → Prop := fun O2 H2 r => match r with
      | .ok (.next env') => ∀ O' σ' H', Step O2 H2 O' H' → Sim X.K Γ A B O' H' env' σ' → D.nx σ' H'
      | .ok (.ret x) => ∀ v H', Same B H' → Ret X.K rk A B H' v x → D.rt v H'
      | .ok (.cont _) => False
      | .exc c x => XOk X.K A B E c x
      | .bad => False
    have gstep : ∀ {O2 O3 : Ow} {H2 H3 : Hp} {r : Res Out}, Step O2 H2 O3 H3 → goal O2 H2 r → goal O3 H3 r := fun {O2 O3 H2 H3 r} st z => by
      cases r with
      | bad => exact z
      | exc c x => exact z
      | ok o =>
        cases o with
        | next e' => exact fun O' σ' H' s w => z O' σ' H' (st.trans s) w
        | ret x => exact z
        | cont e' => exact z
    have q : goal O H (forGo g m env xs) := by
      cases e2 : forGo g m env xs with
      | bad => rw [e2] at q; exact q
      | exc c x => rw [e2] at q; exact q
      | ok o => rw [e2] at q; cases o <;> exact q
    refine ⟨fun i n σ H2 => n = xs.length - i ∧ i ≤ xs.length ∧ ∃ O2 env2, Step O H1 O2 H2 ∧ Sim X.K Γ A B O2 H2 env2 σ ∧ goal O2 H2 (forGo g m env2 (xs.drop i)),
      ⟨xs.length, by simp, Nat.zero_le _, O, env, Step.refl, si.up s1, by simpa using gstep (Step.of_same s1) q⟩, ?_⟩
    rintro i n σ2 H2 ⟨rfl, hi, O2, env2, st2, si2, q2⟩
    have dd := dit A O2 H2 st2 (fun z => by cases z) (fun a z => .inl z) si2.cor
    by_cases hlt : i < xs.length
    · have hx : xs[i]? = some xs[i] := List.getElem?_eq_getElem hlt
      obtain ⟨hgo1, hy⟩ := dd.1 i xs[i] hx
      rw [List.drop_eq_getElem_cons hlt] at q2
      unfold forGo at q2
      refine .inr ⟨hgo1, fun σ' H' => i + 1 ≤ xs.length ∧ ∃ O2 env2, Step O H1 O2 H' ∧ Sim X.K Γ A B O2 H' env2 σ' ∧ goal O2 H' (forGo g m env2 (xs.drop (i + 1))),
        fun σ' H' w => ⟨xs.length - (i + 1), by omega, rfl, w⟩, fun v H3 y => ?_⟩
      obtain ⟨s3, rv⟩ := hy v H3 y
      refine ⟨O2, env2, xs[i], si2.up s3, rv, ?_⟩
      cases e4 : g xs[i] env2 with
      | none => simp only [e4] at q2; exact q2
      | some env3 =>
        simp only [e4] at q2
        refine fun σ4 si4 _ => ⟨O2, env3, si4, ?_⟩
        have st3 := Step.of_same (O := O2) s3
        cases e5 : m env3 with
        | bad => simp only [e5] at q2; exact q2
        | exc c x => simp only [e5] at q2; exact q2
        | ok o =>
          cases o with
          | ret x => simp only [e5] at q2; exact q2
          | cont x => simp only [e5] at q2; exact q2
          | next env4 =>
            simp only [e5] at q2
            exact fun O5 σ5 H5 st5 si5 => ⟨hlt, O5, env4, (st2.trans st3).trans st5, si5, gstep (st3.trans st5) q2⟩
    · have he : i = xs.length := by omega
      subst he
      rw [List.drop_length] at q2
      exact .inl ⟨dd.2, q2 O2 σ2 H2 Step.refl si2⟩

/-! ### while: so many turns at most -/
def whGo (c : En → Res Bool) (m : MS) : Nat → En → Res Out
  | 0, _ => .bad
  | n + 1, env => match c env with
    | .ok true => match m env with
      | .ok (.next env2) => whGo c m n env2
      | .ok (.ret y) => .ok (.ret y)
      | .ok (.cont _) => .bad
      | .exc c y => .exc c y
      | .bad => .bad
    | .ok false => .ok (.next env)
    | .exc c y => .exc c y
    | .bad => .bad
def mWhile (f : En → Nat) (c : En → Res Bool) (m : MS) : MS := fun env => whGo c m (f env) env
theorem s_while {c : Expr} {body : List Stmt} {mc : En → Res Bool} {f : En → Nat} (hp : PassesOwn (model X.prog X.w) X.A X.env X.xe) (hc : PT X c (tT X.K Γ A B E mc)) (hb : PSs X body (tS X.K Γ Γ A B E rk m)) :
    PS X (.While c body [] pos) (tS X.K Γ Γ A B E rk (mWhile f mc m)) := by
  refine ⟨fun pins s σ H D I ⟨O, env, si, q⟩ => (ps_while hp hc hb).run pins s σ H D I ?_⟩
  let goal : Ow → Hp → Res Out → Prop := fun O2 H2 r => match r with
    | .ok (.next env') => ∀ O' σ' H', Step O2 H2 O' H' → Sim X.K Γ A B O' H' env' σ' → D.nx σ' H'
    | .ok (.ret x) => ∀ v H', Same B H' → Ret X.K rk A B H' v x → D.rt v H'
    | .ok (.cont _) => False
    | .exc c x => XOk X.K A B E c x
    | .bad => False
  have gstep : ∀ {O2 O3 : Ow} {H2 H3 : Hp} {r : Res Out}, Step O2 H2 O3 H3 → goal O2 H2 r → goal O3 H3 r := fun {O2 O3 H2 H3 r} st z => by
    cases r with
    | bad => exact z
    | exc c x => exact z
    | ok o =>
      cases o with
      | next e' => exact fun O' σ' H' s w => z O' σ' H' (st.trans s) w
      | ret x => exact z
      | cont e' => exact z
  unfold mWhile at q
  have q : goal O H (whGo mc m (f env) env) := by
    cases e2 : whGo mc m (f env) env with
    | bad => rw [e2] at q; exact q
    | exc c x => rw [e2] at q; exact q
    | ok o => rw [e2] at q; cases o <;> exact q
  refine ⟨fun n σ H => ∃ O2 env2, Sim X.K Γ A B O2 H env2 σ ∧ goal O2 H (whGo mc m n env2), ⟨f env, O, env, si, q⟩, ?_⟩
  rintro n σ2 H2 ⟨O2, env2, si2, q2⟩
  refine ⟨O2, env2, si2, ?_⟩
  cases n with
  | zero => exact q2.elim
  | succ n =>
    unfold whGo at q2
    cases e3 : mc env2 with
    | bad => simp only [e3] at q2; exact q2
    | exc c x => simp only [e3] at q2; exact q2
    | ok b =>
      intro H3 s3
      have st3 := Step.of_same (O := O2) s3
      cases b with
      | false =>
        simp only [e3] at q2
        exact (if_neg (by simp)).mpr (q2 O2 σ2 H3 st3 (si2.up s3))
      | true =>
        simp only [e3] at q2
        refine (if_pos rfl).mpr ⟨fun σ' H' => ∃ O4 env4, Sim X.K Γ A B O4 H' env4 σ' ∧ goal O4 H' (whGo mc m n env4), fun σ' H' w => ⟨n, Nat.lt_succ_self n, w⟩, O2, env2, si2.up s3, ?_⟩
        cases e5 : m env2 with
        | bad => simp only [e5] at q2; exact q2
        | exc c x => simp only [e5] at q2; exact q2
        | ok o =>
          cases o with
          | ret x => simp only [e5] at q2; exact q2
          | cont x => simp only [e5] at q2; exact q2
          | next env4 =>
            simp only [e5] at q2
            exact fun O5 σ5 H5 st5 si5 => ⟨O5, env4, si5, gstep (st3.trans st5) q2⟩
end
end PD
set_option maxHeartbeats 2000000
/-! The errors of the program: VanError's __init__ (super().__init__(value); self.value = value), run for any class below it. -/
namespace PV
open PySem PySem.W PySem.Calls PyProof.Rows PySem.HandSPX
/-! ### the text of __init__ -/
def iA : Arguments := { posonlyargs := [], args := [{ arg := "self", annotation := none, pos := ⟨4, 17, 4, 21⟩ }, { arg := "value", annotation := none, pos := ⟨4, 23, 4, 28⟩ }], vararg := none, kwonlyargs := [], kw_defaults := [], kwarg := none, defaults := [] }
def iB : List Stmt := [.Expr (.Call (.Attribute (.Call (.Name "super" ⟨5, 8, 5, 13⟩) [] [] ⟨5, 8, 5, 15⟩) "__init__" ⟨5, 8, 5, 24⟩) [.Name "value" ⟨5, 25, 5, 30⟩] [] ⟨5, 8, 5, 31⟩) ⟨5, 8, 5, 31⟩,
  .Assign [.Attribute (.Name "self" ⟨6, 8, 6, 12⟩) "value" ⟨6, 8, 6, 18⟩] (.Name "value" ⟨6, 21, 6, 26⟩) ⟨6, 8, 6, 26⟩]
def iS : Scope := { kind := .function, names := [(PySem.Str.ofString "self", .local), (PySem.Str.ofString "value", .local), (PySem.Str.ofString "__class__", .free), (PySem.Str.ofString "super", .globalImplicit)], isGenerator := false, isCoroutine := false, more := [] }
/-- what the written part says of VanError, at D, and of its __init__ -/
structure VanTxt (P : Program) (K : Frag) (D fI : Addr) : Prop where
  fn : ∃ (cc cda : Addr) (oc : Value) (od : Option Addr) (doc pm : Value) (an : Option Addr) (ct : Value) (osl : Array (Option Value)) (ccl : Value) (cdd : Option Addr) (vs : Array Value) (ccs : Array (Option Value)) (file : Str) (tf : Tok) (cl : Value) (cld : Option Addr) (csl : Array (Option Value)) (cdD : ClassData),
    K.lookup fI = some ⟨oc, od, .func (ksFn "__init__" "VanError.__init__" iA iB iS .none .none doc pm an (.ref cda) ct cc), osl⟩ ∧ codeIn K (.ref cda) "VanError.__init__" = true ∧
    K.lookup cda = some ⟨ccl, cdd, .fields vs, ccs⟩ ∧ vs[2]? = some (.str file tf) ∧ ((P.main.file : Str) == file) = true ∧ K.lookup cc = some ⟨cl, cld, .cell (some (.ref D)), csl⟩ ∧ clsIn K D = some cdD
  top : (P.main.scope.names.lookup ("super" : Str)).isSome = false
  sup : nsIn K mainGlobals "super" = some none
  tC : typeIn K (.ref fI) = some (.type "function")
  any : nsIn K cStatics "thirdparty.any" = some none
/-- .. of a class below it, at C -/
structure VanC (K : Frag) (D fI C : Addr) : Prop where
  cls : ∃ nm q N bs bm sn sub ab col dd k0 k1 k2 k3 k5, K.lookup C = some (excClassObj nm q C N bs bm true sn sub ab col dd k0 k1 k2 k3 k5 "ValueError.__new__") ∧ refsVE bm = true
  sa : findIn K (.ref C) "__setattr__" = some (some (.builtin "object.__setattr__"))
  noN : findIn K (.ref C) "value" = some none
  iC : findIn K (.ref C) "__init__" = some (some (.ref fI))
  kC : keepIn K (.ref C) = true
  exC : subIn K (.ref C) (.type "BaseException") = some true
  tyC : typeIn K (.ref C) = some (.type "type")
  sub : mroIn K C (.ref D) = some true
  hm : ks_superIn K C D "__init__" = some (some (.builtin "ValueError.__init__"))
  hB : subIn K (.ref C) (.type "ValueError") = some true
theorem one_size (v : Value) : [v].length ≤ sizeLine := by
  rw [sizeLine_eq]
  exact (by decide : 1 ≤ 16777216)
/-- what __init__ leaves of a fresh exception at x -/
structure InitEnd (h h' : Heap) (x C dx t1 : Addr) (v : Value) : Prop where
  keep : ∀ b o, b ≠ x → h.get? b = some o → h'.get? b = some o
  obj : h'.get? x = some { cls := .ref C, dict := some dx, data := .fields #[.ref t1, .none, .none, .none, .bool false, .none] }
  dbig : h.objs.size ≤ dx
  dne : dx ≠ x
  ns : h'.Ns1 dx (fun y => if y = "value" then some v else none)
/-- a made error -/
structure OwnMade (h h' : Heap) (e C d : Addr) (v : Value) : Prop where
  keep : ∀ b o, h.get? b = some o → h'.get? b = some o
  new : h.objs.size ≤ e
  obj : ∃ oe vs, h'.get? e = some oe ∧ oe.cls = .ref C ∧ oe.dict = some d ∧ oe.data = .fields vs ∧ vs[1]? = some .none
  dbig : h.objs.size ≤ d
  dne : d ≠ e
  ns : h'.Ns1 d (fun y => if y = "value" then some v else none)
section
variable {prog : Program} {w : World} {A : Around} {E : Value → Shared → Prop} {R : Result → Shared → Prop} {s : Shared} {K : Frag} {D fI C : Addr}
theorem van_init {mg mb : Str → Option Value} (T : VanTxt prog K D fI) (c : VanC K D fI C) {x t0 : Addr} {v : Value} (X : K.In s.heap) (hlim : s.heap.NoLimit) (hglob : s.heap.Ns mainGlobals mg) (hmg : mg "super" = none) (hblt : s.heap.Ns builtinsNs mb) (hmb : mb "super" = some (.type "super"))
    (hx : s.heap.get? x = some (excO C t0)) (hnx : K.lookup x = none) (hroom : A.depth < recursionLimit)
    (hq : ∀ h' tk dx t1, InitEnd s.heap h' x C dx t1 v → R (.ok (.ret .none)) { s with heap := h', toks := tk }) :
    codeAny (model prog w) A (.call (.ref fI) ⟨[.ref x, v], []⟩) R s := by
  obtain ⟨cc, cda, oc, od, doc, pm, an, ct, osl, ccl, cdd, vs, ccs, file, tf, cl, cld, csl, cdD, ho, hcd, hcode, hvs, hfile, hcell, hD⟩ := T.fn
  obtain ⟨nm, q, N, bs, bm, sn, sub, ab, col, dd, k0, k1, k2, k3, k5, hC, hbm⟩ := c.cls
  have hcl : clsIn K C = some { name := nm, bases := bs, mro := .ref C :: bm, ns := N, qualname := q, hasDict := true, slotNames := sn, subclasses := sub, abstract := ab, collection := col, hasDel := false } := by unfold clsIn; rw [hC] <;> rfl
  refine ks_codeAny_call_defAt (fd := ksFn "__init__" "VanError.__init__" iA iB iS .none .none doc pm an (.ref cda) ct cc) (body := iB) (binds := [("self", .ref x), ("value", v)]) hroom (X _ _ ho) rfl hlim (codeRec_of X hcd) rfl (BindsTo.of_eq (by first | rfl | with_unfolding_all rfl)) (show ∀ x ∈ iS.names, x.2 ≠ .cell by decide) (fun y hy => ?hl) (fun h₁ hn k => ?_) rfl rfl rfl
  case hl =>
    rcases List.mem_cons.mp hy with e | hy
    · rw [e]; rfl
    · rcases List.mem_cons.mp hy with e | hy
      · rw [e]; rfl
      · cases hy
  obtain ⟨hp, g, dr, tk, os⟩ := s
  have X₁ : K.In h₁ := X.keeps k
  have hx₁ := k _ _ hx
  have hself : List.lookup ("self" : Str) ([(("self" : Str), Value.ref x), (("value" : Str), v)] : List (Str × Value)).reverse = some (Value.ref x) := by first | rfl | kernel_rfl
  have hval : List.lookup ("value" : Str) ([(("self" : Str), Value.ref x), (("value" : Str), v)] : List (Str × Value)).reverse = some v := by first | rfl | kernel_rfl
  obtain ⟨oD, hD1, hD2⟩ : ∃ oD, h₁.get? D = some oD ∧ oD.data = .cls cdD := by
    unfold clsIn at hD
    split at hD
    · rename_i c d cd' sl ho
      cases hD
      exact ⟨_, X₁ _ _ ho, rfl⟩
    · cases hD
  have I₁ : InstAt h₁ x (excO C t0) C none := ⟨hx₁, rfl, rfl, trivial⟩
  show _root_.PySem.wpAt (model prog w) (A.deeper (ksEnv "VanError.__init__" iS hp.objs.size fI (.ref cda) cc)) (.func iB (ksEnv "VanError.__init__" iS hp.objs.size fI (.ref cda) cc)) (execs iB (ksEnv "VanError.__init__" iS hp.objs.size fI (.ref cda) cc)) _ _ _
  refine ks_wpAt_execs_cons (ks_wpAt_Expr_any ?_)
  refine ks_wpAt_MethodCall (pl := _) ?_ (by rfl)
  refine ks_wpAt_super_base (env := ksEnv "VanError.__init__" iS hp.objs.size fI (.ref cda) cc) rfl rfl rfl rfl (X₁ _ _ ho) rfl rfl rfl (X₁ _ _ hcode) rfl hvs hfile T.top ?_
  have hL : x ≠ hp.objs.size := Nat.ne_of_lt (Heap.lt_size hx)
  have k2 : ∀ b o, hp.get? b = some o → h₁.get? b = some o := k
  refine ks_loadName_global rfl rfl (loadGlobal_builtin (hglob.keeps k2) hmg (hblt.keeps k2) hmb ⟨rfl, ?_⟩)
  refine wpAny_loadName_free rfl rfl rfl ⟨_, X₁ _ _ hcell, rfl⟩ ?_
  refine wpAny_loadName_local rfl rfl hn hself ?_
  refine ks_wpAny_isType_cls hD1 hD2 ⟨rfl, ?_⟩
  refine ks_wpAny_call_super hD1 hD2 I₁.at_ I₁.cls (fun c e => by cases e) (looks_mroIn X₁ c.sub) (fun h₂ e₂ k₂ => ?_)
  -- super().__init__ is found
  have X₂ : K.In h₂ := X₁.keeps k₂
  have hx₂ := k₂ _ _ hx₁
  have I₂ : InstAt h₂ x (excO C t0) C none := ⟨hx₂, rfl, rfl, trivial⟩
  have hal : alongIn K "__init__" (((Value.ref C :: bm).dropWhile (· != .ref D)).drop 1) = some (some (.builtin "ValueError.__init__")) := by
    have z := c.hm
    unfold ks_superIn at z
    rw [hcl] at z
    exact z
  refine kxs_getMethod kxs_ValueError e₂ (looks_opaque X₂ T.any) (l₀ := Value.ref C :: bm) ?_ rfl X₂ hal (I₂.type.andThen (looks_subIn X₂ c.hB)) (ks_ne X₂ I₂ hcl) rfl ?_
  · exact fun A Q E s k q => wpAny_bind ((looks_clsIn X₂ hcl) A _ E s k (wpAny_pure q))
  -- its argument, its run
  have k3 : ∀ b o, h₂.get? b = some o → (h₂.push (kxs_mw "ValueError.__init__" x)).get? b = some o := fun b o e => Heap.get?_push_of_some _ e
  have k03 : ∀ b o, hp.get? b = some o → (h₂.push (kxs_mw "ValueError.__init__" x)).get? b = some o := fun b o e => k3 b o (k₂ b o (k b o e))
  have hn₃ : (h₂.push (kxs_mw "ValueError.__init__" x)).Ns hp.objs.size _ := (hn.keeps k₂).keeps k3
  refine kxs_callWith (i := "ValueError.__init__") (x := x) (first := []) (by rfl) ?_
  refine evalArgs_plain ?_
  refine Calls.spliced_cons (wpAny_Name (wpAny_loadName_local rfl rfl hn₃ hval ?_) (by decide))
  refine Calls.spliced_nil ⟨Heap.get?_push_at rfl rfl, ?_⟩
  have hu : (h₂.push (kxs_mw "ValueError.__init__" x)).get? h₂.objs.size = some (kxs_mw "ValueError.__init__" x) := Heap.get?_push_at rfl rfl
  have hx₃ := k3 _ _ hx₂
  have hC₃ := (X₂.keeps k3) _ _ hC
  refine wpAny_call (codeAny_of_tree ?_)
  show wpAny _ (A.deeper _).in1 (callAny (.ref h₂.objs.size) ⟨[v], []⟩) _ _ _
  simp only [callAny]
  refine wpAny_bind (wpAny_load hu ?_)
  simp only [kxs_mw, show (Value.type "method-wrapper" == Value.type "method" || Value.type "method-wrapper" == Value.type "builtin_function_or_method" || Value.type "method-wrapper" == Value.type "method-wrapper") = true by decide, if_true]
  refine KFB.if_so (by decide) ?_
  refine wpAny_bind (check_bound_init F.excBase_ValueError.toExcCallFacts hC₃ hx₃ rfl ?_)
  refine wpAny_bind (wpAny_pure (wpAny_pure ?_))
  refine ⟨plainId_quiet F.excBase_ValueError.init.plain _, codeAny_builtin F.excBase_ValueError.initEntry ?_⟩
  refine exc_init_tree (cls := .ref C) (t0 := t0) (dv := none) (c2 := .none) (c3 := .none) (b4 := .bool false) hx₃ (one_size v) fun h₄ k₄ hx₄ _ => ?_
  have X₄ : K.In h₄ := fun a o e => k₄ a o (fun z => by rw [z, hnx] at e; cases e) ((X₂.keeps k3) a o e)
  have hn₄ := Heap.Ns.at hn₃ (fun o e => k₄ _ o hL.symm e)
  refine _root_.PySem.wpAt_of_wpAny (wpAny_execs_cons (plainObj_wpAny_Assign_Attribute ?_))
  refine wpAny_Name (wpAny_loadName_local rfl rfl hn₄ hval ?_) (by decide)
  refine wpAny_Name (wpAny_loadName_local rfl rfl hn₄ hself ?_) (by decide)
  refine set_plain X₄ (ox := excO C (h₂.push (kxs_mw "ValueError.__init__" x)).objs.size) (od := none) ⟨hx₄, rfl, rfl, trivial⟩ c.sa ?_
  refine exc_osa X₄ hx₄ hcl (show refsVE (.ref C :: bm) = true from hbm) rfl c.noN (fun h₅ tk₅ dx k₅ dn dne hx₅ hn₅ => ?_)
  show wpAny _ _ (execs _ _) _ _ _
  refine wpAny_execs_nil (hq h₅ tk₅ dx (h₂.push (kxs_mw "ValueError.__init__" x)).objs.size ⟨fun b o hb e => k₅ b o hb (k₄ b o hb (k03 b o e)), hx₅, ?_, dne, hn₅⟩)
  exact Nat.le_of_lt (Nat.lt_of_lt_of_le hn₄.lt dn)
theorem van_made {mg mb : Str → Option Value} (T : VanTxt prog K D fI) (c : VanC K D fI C) {v : Value} (X : K.In s.heap) (hlim : s.heap.NoLimit) (hglob : s.heap.Ns mainGlobals mg) (hmg : mg "super" = none) (hblt : s.heap.Ns builtinsNs mb) (hmb : mb "super" = some (.type "super"))
    (hroom : A.depth + 1 < recursionLimit) (hq : ∀ h' tk e d, OwnMade s.heap h' e C d v → R (.ok (.ret (.ref e))) { s with heap := h', toks := tk }) :
    codeAny (model prog w) A (.call (.ref C) ⟨[v], []⟩) R s := by
  obtain ⟨nm, q, N, bs, bm, sn, sub, ab, col, dd, k0, k1, k2, k3, k5, hC, hbm⟩ := c.cls
  obtain ⟨hp, g, dr, tk, os⟩ := s
  have k : ∀ b o, hp.get? b = some o → ((hp.push (kdv_tup [v])).push (excO C hp.objs.size)).get? b = some o := fun b o e => Heap.get?_push_of_some _ (Heap.get?_push_of_some _ e)
  have hget : ((hp.push (kdv_tup [v])).push (excO C hp.objs.size)).get? (hp.objs.size + 1) = some (excO C hp.objs.size) := by heap_get
  have hnx : K.lookup (hp.objs.size + 1) = none := by
    cases e : K.lookup (hp.objs.size + 1) with
    | none => rfl
    | some o => exact absurd (Nat.lt_of_succ_lt (Heap.lt_size (X _ _ e))) (Nat.lt_irrefl _)
  refine call_own F.excBase_ValueError (fun X => refsVE_contains X bm hbm) (X _ _ hC) (looks_findIn X c.iC) (fun self => bind_fn X self T.tC) (one_size v) ?_
  refine van_init (s := ⟨(hp.push (kdv_tup [v])).push (excO C hp.objs.size), g, dr, tk, os⟩) T c (X.keeps k) (hlim.keeps k) (hglob.keeps k) hmg (hblt.keeps k) hmb hget hnx ?_ fun h' tk' dx t1 ⟨k', hx, dn, dne, hns⟩ => ?_
  · show A.depth + 1 < recursionLimit
    exact hroom
  · have old : ∀ b o, hp.get? b = some o → h'.get? b = some o := fun b o e => k' b o (Nat.ne_of_lt (Nat.lt_succ_of_lt (Heap.lt_size e))) (k b o e)
    have z : hp.objs.size + 1 + 1 ≤ dx := by
      have q := dn
      rw [Heap.size_push, Heap.size_push] at q
      exact q
    exact ⟨rfl, hq h' tk' (hp.objs.size + 1) dx ⟨old, Nat.le_succ _, ⟨_, _, hx, rfl, rfl, rfl, rfl⟩, Nat.le_trans (Nat.le_trans (Nat.le_succ _) (Nat.le_succ _)) z, dne, hns⟩⟩
end
end PV
namespace PV
open PySem PySem.Spec PyProof.Rows L2
theorem relO_van {v : V} {v' : Value} (r : RelV v v') (f : Str) : RelO (List.lookup f [(("value" : Str), v)]) (if f = "value" then some v' else none) := by
  by_cases hw : f = "value"
  · subst hw
    rw [if_pos rfl, show List.lookup ("value" : Str) [(("value" : Str), v)] = some v by simp [List.lookup]]
    exact r
  · have qw : (f == ("value" : Str)) = false := by simpa using hw
    rw [if_neg hw, show List.lookup f [(("value" : Str), v)] = none by simp [List.lookup, qw]]
    trivial
section
variable {X : Cx} {D C fI : Addr}
/-- x(e), x the name of the class at C -/
def tMkVan (C : Addr) (ta : TA) : L2.St → Hp → XK → Prop := fun σ H Q => ta σ H fun vs H1 => ∃ v, vs = [v] ∧ ∀ d, H1 d = none → Q (.ref C) (some d) (upd H1 d (.xd [(("value" : Str), v)]))
theorem pmk_van {x : Str} {a : Expr} {ta : TA} {p pos : Pos} {k : Nat} (T : VanTxt X.prog X.K D fI) (c : VanC X.K D fI C) (hms : X.mg "super" = none) (hm : X.mg x = some (.ref C)) (hr : Room k X.A) (ha : PA X [a] ta) (hg : Gl X x := by rfl) (hdb : (x == ("__debug__" : Str)) = false := by decide)
    (he : starEach (a :: []) X.env = (false, eval a X.env) :: starEach [] X.env := by rfl) (hpl : (backTo pos (starEach [] X.env)).any (·.1) = false := by rfl) :
    PMk X (.Call (.Name x p) [a] [] pos) (tMkVan C ta) := by
  intro pins s σ H Q I h
  refine wpAny_Call_Name_kw (ld_glob I hg hm ?_ hdb)
  refine PySem.W.callWith_K (h₀ := X.base) I.ok.mod.kin c.kC (thn (ha.run pos pins s σ H _ I h) fun us s1 hh => ?_) he hpl
  obtain ⟨vs, H1, I1, r1, v, ev, q1⟩ := hh
  subst ev
  refine ⟨I1.kIn, ?_⟩
  cases r1 with
  | cons rv rn =>
    rename_i v' us'
    cases rn
    show wpAny _ _ (call (.ref C) [v']) _ _ _
    have hlim := I1.nolimit
    obtain ⟨mb, hb1, hb2⟩ := I1.mod.blt
    have hgl := I1.mod.glob.keeps I1.bk
    have hbl := hb1.keeps I1.bk
    have hmb : mb "super" = some (.type "super") := (hb2 "super" (by decide)).trans (by kernel_rfl)
    obtain ⟨hp, g, dr, tk, os⟩ := s1
    refine wpAny_call (van_made T c I1.kIn hlim hgl hms hbl hmb (by have := hr.dp; omega) fun h' tk' e d M => ?_)
    show MkP X pins σ Q (.ref e) ⟨h', g, dr, tk', os⟩
    obtain ⟨oe, fv, hoe, hc, hd, hdat, h1⟩ := M.obj
    have hns := M.ns
    obtain ⟨G', g1, g2⟩ := restrict h' fun b => decide (b ≠ e)
    have gk : ∀ b, b ≠ e → G'.get? b = h'.get? b := fun b hb => g1 b (decide_eq_true hb)
    have ge : G'.get? e = none := g2 e (by simp)
    have old : ∀ b o, hp.get? b = some o → G'.get? b = some o := fun b o q => (gk b (Nat.ne_of_lt (Nat.lt_of_lt_of_le (Heap.lt_size q) M.new))).trans (M.keep b o q)
    have ob : ObjOk X.prog X.w (upd H1 d (.xd [(("value" : Str), v)])) G' d (.xd [(("value" : Str), v)]) :=
      ⟨_, hns.at (fun o q => (gk d M.dne).trans q), fun f => relO_van rv f⟩
    have J : Inv X pins σ (upd H1 d (.xd [(("value" : Str), v)])) ⟨G', g, dr, tk', os⟩ := I1.laid (t' := tk') old M.dbig ob
    refine ⟨e, oe, fv, ⟨G', g, dr, tk', os⟩, _, .ref C, some d, rfl, J, fun b o q => ?_, ge, hoe, ⟨hc, hd⟩, hdat, h1, ?_, rfl, I1.bare, raises_own c.exC c.tyC, q1 d (I1.hok.fresh M.dbig)⟩
    · by_cases hb : b = e
      · have q' : G'.get? b = some o := q
        rw [hb, ge] at q'; cases q'
      · exact (gk b hb).symm.trans q
    · rw [upd_ne (Ne.symm M.dne)]
      exact I1.hok.fresh M.new
end
end PV
set_option maxHeartbeats 2000000
/-! PD 13: pairs of names that are captured, own errors raised, calls, defs. -/
namespace PD
open PySem PySem.Spec PyProof.Rows L2 PySem.W
section
variable {X : Cx} {Γ Γ1 Γ2 Γ' : List Kd} {A : Addr → Prop} {B : Hp} {E : XK} {rk : Fl} {st : Stmt} {rest : List Stmt} {m n : MS} {e : Expr} {a b : ME} {fl f1 f2 f3 : Fl} {pos : Pos} {k : Nat}
/-- as s_par, the tuple is made and taken apart -/
theorem s_parG {i j : Nat} {x y : Str} {ea eb : Expr} {px py pt : Pos} {kt k2 : Nat} {pt2 : Pos} {ki kj : Kd} (hc : X.calm = true) (hN : X.N.Nodup) (hi : X.N[i]? = some x) (hj : X.N[j]? = some y)
    (hx : Loc X.env.scope x) (hy : Loc X.env.scope y) (hli : Nat.blt i Γ.length = true) (hlj : Nat.blt j Γ.length = true) (hki : kdS f1 = some ki) (hkj : kdS f2 = some kj) (h2 : f2.pf = true)
    (ha : ∀ B, PE X ea (tE X.K Γ A B E f1 a)) (hb : ∀ A B, PE X eb (tE X.K Γ A B E f2 b))
    (hw : swappedStores [.Tuple [.Name x px, .Name y py] kt pt] (.Tuple [ea, eb] k2 pt2) X.env = pure none := by rfl)
    (hs : swapsWithSole [.Tuple [.Name x px, .Name y py] kt pt] (.Tuple [ea, eb] k2 pt2) pos.line X.env = pure false := by rfl)
    (hs1 : starEach [ea, eb] X.env = (false, eval ea X.env) :: starEach [eb] X.env := by rfl) (hs2 : starEach [eb] X.env = (false, eval eb X.env) :: starEach [] X.env := by rfl)
    (h1 : (assignEach [.Tuple [.Name x px, .Name y py] kt pt] X.env).map (·.2) = [assign (.Tuple [.Name x px, .Name y py] kt pt) X.env] := by rfl)
    (hx1 : X.fn x = true ∨ X.env.scope.names.lookup x = some .local := by first | exact .inl rfl | exact .inr rfl | assumption) (hy1 : X.fn y = true ∨ X.env.scope.names.lookup y = some .local := by first | exact .inl rfl | exact .inr rfl | assumption)
    (hn : (assignEach [.Name x px, .Name y py] X.env).length = 2 := by rfl) (hst : (assignEach [.Name x px, .Name y py] X.env).findIdx? (·.1) = none := by rfl)
    (ht1 : (assignEach [.Name x px, .Name y py] X.env).map (·.2) = assign (.Name x px) X.env :: (assignEach [.Name y py] X.env).map (·.2) := by rfl) (ht2 : (assignEach [.Name y py] X.env).map (·.2) = assign (.Name y py) X.env :: (assignEach [] X.env).map (·.2) := by rfl) :
    PS X (.Assign [.Tuple [.Name x px, .Name y py] kt pt] (.Tuple [ea, eb] k2 pt2) pos) (tS X.K Γ ((Γ.set i ki).set j kj) A B E rk (mPar2 i j a b)) := by
  have hP := ps_asg (pos := pos) (tg := .Tuple [.Name x px, .Name y py] kt pt) (e := .Tuple [ea, eb] k2 pt2) (pe_tup (pa_cons (j_new (B := B) ha) (pa_cons (x_e (t := fun A' => tN X.K Γ A' B E f2 b) fun A' => j_new (B := B) (hb A')) pa_nil hs2) hs1))
    (pg_tup hc (pgs_cons (pg_name hN hi hx hx1) (pgs_cons (pg_name hN hj hy hy1) pgs_nil ht2) ht1) hn hst) hs hw h1
  refine ⟨fun pins s σ H D I ⟨O, env, si, q⟩ => hP.run pins s σ H D I ⟨O, env, si, ?_⟩⟩
  unfold mPar2 at q
  cases e1 : a env with
  | bad => rw [e1] at q; exact q
  | exc c x => rw [e1] at q; exact q
  | ok x1 =>
    rw [e1] at q
    refine fun v H1 s1 r1 nw1 => ?_
    simp only [Res.bind] at q
    refine ⟨fun q => A q ∨ newOf f1 v q, O, env, si.moreF s1 r1 nw1, ?_⟩
    cases e2 : b env with
    | bad => rw [e2] at q; exact q
    | exc c x => rw [e2] at q; exact q.more fun a z => .inl z
    | ok x2 =>
      rw [e2] at q
      refine fun u H2 s2 r2 nw2 => ⟨by rw [sizeLine_eq]; exact (by decide : 2 ≤ 16777216), fun p hp => ?_⟩
      have s3 : Same H2 (upd H2 p (.tup [v, u])) := laid_same hp
      refine ⟨p, [v, u], rfl, .inl (.inl upd_same), rfl, v, [u], rfl, u, [], rfl, rfl, ?_⟩
      obtain ⟨O1, st1, si1, ow1⟩ := si.put1 s1 (Nat.le_of_ble_eq_true hli) hki r1 nw1
      have r2' : VRel X.K f2 A B O1 H2 u x2 := r2.shift (pf_or h2) fun q z => by
        rcases z with z | z
        · exact .inl (.inl z)
        · rcases ow1 q z with z | z
          · exact .inr z
          · exact .inl (.inr z)
      obtain ⟨O2, st2, si2, _⟩ := si1.put1 s2 (by rw [List.length_set]; exact Nat.le_of_ble_eq_true hlj) hkj r2' nw2
      exact q O2 _ _ ((st1.trans st2).trans (Step.of_same s3)) (si2.up s3)

/-! ### an own error is raised -/
def mRaise (c : Str) (a : ME) : MS := fun env => (a env).bind fun x => .exc c x
/-- a class of own errors, by its name -/
structure Ex (P : Program) (K : PySem.W.Frag) (mg : Str → Option Value) (c : Str) : Prop where
  ex : ∃ D fI, PV.VanTxt P K D fI ∧ PV.VanC K D fI (He.ga K c)
  sup : mg "super" = none
  glo : mg c = some (.ref (He.ga K c))
theorem s_raise {c : Str} {ex : Expr} {p p2 : Pos} {W : WX} (z : Cz X E k) (tk : Takes X (fun cls d _ H => E cls d H)) (x : Ex X.prog X.K X.mg c) (hf : fl.gives .p = true) (ha : PE X ex (tE X.K Γ A B E fl a)) (hg : Gl X c := by rfl) (hdb : (c == ("__debug__" : Str)) = false := by decide)
    (he : starEach (ex :: []) X.env = (false, eval ex X.env) :: starEach [] X.env := by rfl) (hpl : (backTo p2 (starEach [] X.env)).any (·.1) = false := by rfl) :
    PS X (.Raise (some (.Call (.Name c p) [ex] [] p2)) none pos) (tS X.K Γ Γ' A B E rk (mRaise c a)) := by
  obtain ⟨D, fI, T, vc⟩ := x.ex
  have hP := ps_raise (pos := pos) z.calm tk (PV.pmk_van (pos := p2) (p := p) T vc x.sup x.glo z.room (pa_cons ha pa_nil he) hg hdb he hpl)
  refine ⟨fun pins s σ H D I ⟨O, env, si, q⟩ => hP.run pins s σ H D I ⟨O, env, si, ?_⟩⟩
  unfold mRaise at q
  cases e1 : a env with
  | bad => rw [e1] at q; exact q
  | exc c x => rw [e1] at q; exact q
  | ok x =>
    rw [e1] at q
    simp only [Res.bind] at q
    refine fun v H1 s1 r1 => ⟨v, rfl, fun d hd => ?_⟩
    have c1 := si.cor.up s1
    have r2 : Dv X.K H1 A v x := r1.ret c1 hf
    exact q _ d v (c1.same.trans (laid_same hd)) (c1.bn hd) upd_same (r2.same (laid_same hd))

/-! ### calls -/
theorem VRels.lenF {K : PySem.W.Frag} {O : Ow} {H : Hp} {fls : List Fl} {vs : List V} {xs : List PyData} (h : VRels K A B O H fls vs xs) : vs.length = fls.length := by
  induction h with
  | nil => rfl
  | cons _ _ ih => exact congrArg (· + 1) ih
/-- what a def promises: given data it comes to what f says; what it hands back -/
def spP (K : PySem.W.Frag) (n : Nat) (rk : Fl) (f : List PyData → Res PyData) : Sp := fun vs H Q E => vs.length = n ∧ LamX.Tabs PD.tabs H ∧ ∃ (A : Addr → Prop) (xs : List PyData), (∀ a, A a → H a ≠ none) ∧ DvAll K H A vs xs ∧ match f xs with
  | .ok x => ∀ v H', Same H H' → Ret K rk A H H' v x → Q v H'
  | .exc c x => XOk K A H E c x
  | .bad => False
structure Fn (P : Program) (w : World) (K : PySem.W.Frag) (mg : Str → Option Value) (base : Heap) (k n : Nat) (rk : Fl) (x : Str) (f : List PyData → Res PyData) : Prop where
  ex : ∃ fa fd ps, FnOk P w K mg base (L2.CX P w) k fa fd ps (spP K n rk f) ∧ mg x = some (.ref fa) ∧ PySem.W.keepIn K (.ref fa) = true ∧ Binds K fd ps []
def mCall (f : List PyData → Res PyData) (m : ML) : ME := fun env => (m env).bind f
/-- the flag of a call's value, from its arguments' -/
def Fl.back (rk j : Fl) : Fl := match rk with
  | .f => lcFl j
  | _ => j
theorem j_call {x : Str} {p : Pos} {es : List Expr} {fls : List Fl} {ml : ML} {f : List PyData → Res PyData} {kf nf : Nat} {rf : Fl} (F : Fn X.prog X.w X.K X.mg X.base kf nf rf x f) (z : Cz X E k) (hk : Nat.ble kf k = true) (hj : Fl.joins fls = .p ∨ Fl.joins fls = .t) (hr : rf = .p ∨ rf = .f) (hn : Nat.beq fls.length nf = true)
    (ha : PA X (e :: es) (tL X.K Γ A B E fls ml)) (hg : Gl X x := by rfl) (hdb : (x == ("__debug__" : Str)) = false := by decide) (he : starEach (e :: es) X.env = (false, eval e X.env) :: starEach es X.env := by rfl) (hpl : (backTo pos (starEach es X.env)).any (·.1) = false := by rfl) :
    PE X (.Call (.Name x p) (e :: es) [] pos) (tE X.K Γ A B E (Fl.back rf (Fl.joins fls)) (mCall f ml)) := by
  obtain ⟨fa, fd, ps, F, hm, hkp, hb⟩ := F.ex
  have hP := pe_call (pos := pos) (p := p) F (z.room.mono (Nat.le_of_ble_eq_true hk)) hg hm hkp hb .nil z.pass ha hdb he hpl
  refine ⟨fun pins s σ H Q I ⟨O, env, si, q⟩ => hP.run pins s σ H Q I ⟨O, env, si, ?_⟩⟩
  unfold mCall at q
  cases e1 : ml env with
  | bad => rw [e1] at q; exact q
  | exc c x => rw [e1] at q; exact q
  | ok xs =>
    rw [e1] at q
    simp only [Res.bind] at q
    intro vs H1 s1 r1
    have c1 := si.cor.up s1
    have hS : ∀ a, sset (Fl.joins fls) A O a → H1 a ≠ none := fun a w => by
      rcases hj with h | h
      · rw [h] at w
        exact w.elim (c1.an' a) fun ⟨i, e⟩ => c1.oh i a e
      · rw [h] at w
        exact c1.an' a w
    have hlt : ∀ a, A a → sset (Fl.joins fls) A O a := fun a w => by
      rcases hj with h | h
      · rw [h]; exact .inl w
      · rw [h]; exact w
    have da := r1.all c1
    have len : vs.length = nf := by
      rw [← Nat.eq_of_beq_eq_true hn]
      exact r1.lenF
    rw [List.append_nil]
    refine ⟨len, c1.tabs, sset (Fl.joins fls) A O, xs, hS, da, ?_⟩
    cases e2 : f xs with
    | bad => rw [e2] at q; exact q.elim
    | exc c x =>
      rw [e2] at q
      exact fun H' d v s hd e1 e2 => q H' d v (c1.same.trans s) (c1.bn hd) e1 (e2.less hlt)
    | ok x =>
      rw [e2] at q
      intro v H2 s2 r2
      refine q v H2 (s1.trans s2) ?_
      have c2 := c1.up s2
      have bare : ∀ {fl : Fl}, fl.bare → Dv X.K H2 (sset (Fl.joins fls) A O) v x → fl = Fl.joins fls → VRel X.K fl A B O H2 v x := fun hb d e => by
        subst e
        exact VRel.of_dv hb d
      rcases hr with rfl | rfl
      · exact bare (joins_nf _) r2 rfl
      · obtain ⟨p, us, ys, rfl, rfl, e3, hz, hd⟩ := r2
        rcases hj with h | h
        · rw [h] at hd ⊢
          exact ⟨p, us, ys, rfl, rfl, e3, c1.bn hz, c1.an hz, c1.on hz, hd⟩
        · rw [h] at hd ⊢
          exact Dv.lst ⟨c1.an hz, .inl e3⟩ (hd.less fun a w => .inl w)

/-! ### defs -/
def runFn (m : MS) (n : Nat) (xs : List PyData) : Res PyData := match m (xs ++ List.replicate n .none) with
  | .ok (.ret x) => .ok x
  | .ok (.next _) => .ok .none
  | .ok (.cont _) => .bad
  | .exc c x => .exc c x
  | .bad => .bad
/-- what is known of the slots at the entry: n parameters, the others nothing -/
def atEntry (n l : Nat) : List Kd := List.replicate n .d ++ List.replicate l .n
theorem dvAll_get {K : PySem.W.Frag} {H : Hp} {S : Addr → Prop} {vs : List V} {xs : List PyData} (h : DvAll K H S vs xs) {i : Nat} (hi : i < xs.length) : ∃ v, vs[i]? = some v ∧ Dv K H S v xs[i] := h.get (List.getElem?_eq_getElem hi)
theorem sim_start {K : PySem.W.Frag} {H : Hp} {N : List Str} {vs : List V} {xs : List PyData} {n l : Nat} (hT : LamX.Tabs PD.tabs H) (hA : ∀ a, A a → H a ≠ none) (hl : vs.length = n) (hN : N.length = n + l) (d : DvAll K H A vs xs) :
    Sim K (atEntry n l) A H (fun _ => none) H (xs ++ List.replicate l .none) (L2.start N vs) := by
  have hx : xs.length = n := d.length.symm.trans hl
  have ho : ∀ a, ¬ own (fun _ : Nat => (none : Option Addr)) a := fun a ⟨i, e⟩ => by cases e
  refine ⟨⟨Same.refl H, hA, fun a _ => ho a, (fun i a e => nomatch e), (fun i a e => nomatch e), (fun i j a e => nomatch e), hT⟩, by simp [atEntry, hx], by simp [atEntry, L2.start, hl, hN], fun i k hi hk => ?_, (fun i a e => nomatch e)⟩
  unfold atEntry at hi
  by_cases h : i < n
  · rw [List.getElem?_append_left (by simpa using h), List.getElem?_replicate] at hi
    simp only [h, if_true] at hi
    cases hi
    obtain ⟨v, h1, h2⟩ := dvAll_get d (i := i) (by omega)
    refine ⟨v, xs[i], ?_, ?_, h2.less fun a z => z.elim id fun z => (ho a z).elim⟩
    · unfold L2.start
      rw [List.getElem?_append_left (by simp; omega), List.getElem?_map, h1]
      rfl
    · rw [List.getElem?_append_left (by omega)]
      exact List.getElem?_eq_getElem _
  · rw [List.getElem?_append_right (by simp; omega), List.getElem?_replicate] at hi
    split at hi
    · cases hi; exact absurd rfl hk
    · cases hi
end
section
variable {P : Program} {w : World} {K : PySem.W.Frag} {mg : Str → Option Value} {base : Heap} {x qual : Str} {params : Arguments} {body : List Stmt} {scope : Scope} {fa : Addr} {fd : FuncData} {N ps : List Str} {k n l : Nat} {rk : Fl} {m : MS} {Γ' : List Kd}
/-- a def's body -/
def Body (P : Program) (w : World) (K : PySem.W.Frag) (mg : Str → Option Value) (base : Heap) (N : List Str) (qual : Str) (scope : Scope) (fa : Addr) (cdv : Value) (body : List Stmt) (k n l : Nat) (rk : Fl) (m : MS) : Prop :=
  ∀ (A0 : Around) (outer : List Env) (s : Shared) (H : Hp) (E : XK) (A : Addr → Prop), let X := cxOf (L2.CX P w) P w K mg base N qual scope fa cdv A0 outer s H E
    Cz X E k → Takes X (fun cls d _ H => E cls d H) → PassesOwn (model X.prog X.w) X.A X.env X.xe → ∃ Γ', PSs X body (tS K (atEntry n l) Γ' A H E rk m)
theorem fn_ok (F : FunD K x qual params body scope [] [] fa fd) (S : FnScope N ps scope) (hn : ps.length = n) (hN : N.length = n + l) (hr : rk = .p ∨ rk = .f) (hm : mg x = some (.ref fa)) (b : Binds K fd ps []) (h : Body P w K mg base N qual scope fa fd.code body k n l rk m) :
    Fn P w K mg base (k + 1) n rk x (match rk with | .p => runFn m l | _ => fun xs => match m (xs ++ List.replicate l .none) with | .ok (.ret x) => .ok x | .exc c x => .exc c x | _ => .bad) := by
  have kp := F.kp
  obtain ⟨oc, od, dV, kV, doc, pm, an, cdv, ct, osl, rfl, lk, hcd, _, _⟩ := F.ex
  refine ⟨fa, _, ps, fn_of lk hcd S (fun vs H Q E hs => hs.1.trans hn.symm) (fun A0 outer s H vs Q E hr' hs => ?_), hm, kp, b⟩
  obtain ⟨hl, hT, A, xs, hA, hd, hs⟩ := hs
  obtain ⟨Γ', hb⟩ := h A0 outer s H E A ⟨hr', rfl, passes_call (takes_of rfl rfl rfl rfl) fun _ _ _ _ z => z⟩ (takes_of rfl rfl rfl rfl) (passes_of rfl)
  refine ⟨_, hb, fun _ => none, _, sim_start hT hA hl hN hd, ?_⟩
  rcases hr with rfl | rfl
  · simp only at hs
    unfold runFn at hs
    cases e : m (xs ++ List.replicate l .none) with
    | bad => simp only [e] at hs
    | exc c x => simp only [e] at hs; exact hs
    | ok o =>
      cases o with
      | next env' => simp only [e] at hs; exact fun O' σ' H' _ z => hs .non H' z.cor.same .non
      | ret x => simp only [e] at hs; exact fun v H' sm r => hs v H' sm r
      | cont env' => simp only [e] at hs
  · simp only at hs
    cases e : m (xs ++ List.replicate l .none) with
    | bad => simp only [e] at hs
    | exc c x => simp only [e] at hs; exact hs
    | ok o =>
      cases o with
      | next env' => simp only [e] at hs
      | ret x => simp only [e] at hs; exact fun v H' sm r => hs v H' sm r
      | cont env' => simp only [e] at hs
end
end PD
set_option maxHeartbeats 2000000
/-! zip and enumerate of lists and tuples, mixed. -/
namespace PZ
open PySem PySem.Spec PyProof.Rows L2
/-- k: a tuple, not a list -/
def SqK (k : Bool) (K : PySem.W.Frag) (H : Hp) (a : Addr) (xs : List V) : Prop := match k with
  | true => SqT K H a xs
  | false => SqL K H a xs
def itO (k : Bool) (a : Addr) : Obj := match k with
  | true => { cls := .type "tuple_iterator", data := .fields #[.ref a, .int 0 0] }
  | false => { cls := .type "list_iterator", data := .fields #[.ref a, .int 0 0] }
def IsIt (k : Bool) (h : Heap) (it a : Addr) (i : Nat) : Prop := match k with
  | true => h.IsTupleIter it a i
  | false => h.IsListIter it a i
def IsQ (k : Bool) (h : Heap) (a : Addr) (items : Array Value) : Prop := match k with
  | true => h.IsTuple a items
  | false => h.IsList a items
theorem IsIt.obj {k : Bool} {h : Heap} {it a : Addr} {i : Nat} (x : IsIt k h it a i) : ∃ o, h.get? it = some o ∧ ∀ v, o.data ≠ .cell v := by
  cases k <;> obtain ⟨o, e, _, d⟩ := x <;> exact ⟨o, e, fun v z => by rw [d] at z; cases z⟩
theorem IsIt.at {k : Bool} {h h' : Heap} {it a : Addr} {i : Nat} (x : IsIt k h it a i) (e : ∀ o, h.get? it = some o → h'.get? it = some o) : IsIt k h' it a i := by
  cases k
  · exact Heap.IsListIter.at x e
  · exact Heap.IsTupleIter.at x e
theorem IsIt.zero {k : Bool} {h : Heap} {it a : Addr} (e : h.get? it = some (itO k a)) : IsIt k h it a 0 := by
  cases k <;> exact ⟨_, e, rfl, rfl⟩
theorem begins (k : Bool) (a : Addr) (items : Array Value) : Begins (.ref a) (itO k a) (fun h => IsQ k h a items) := by
  cases k
  · exact begins_list a items
  · exact begins_tuple a items
theorem draws {prog : Program} {w : World} {A : Around} (hh : A.handled = none) (k : Bool) (it a : Addr) (hne : a ≠ it) (items : Array Value) :
    Draws prog w A it [it, a] items.size (fun i v => items[i]? = some v) (fun i h => IsIt k h it a i ∧ IsQ k h a items) := by
  cases k
  · exact Draws.list hh it a hne items
  · exact Draws.tuple hh it a hne items
section
variable {X : Cx} {pins : List (Addr × Obj)} {σ : L2.St} {H : Hp} {s : Shared}
theorem sqk {k : Bool} {a : Addr} {xs : List V} (I : Inv X pins σ H s) (h : SqK k X.K H a xs) : ∃ its : List Value, Vals xs its ∧ IsQ k s.heap a its.toArray ∧ a < s.heap.objs.size := by
  cases k
  · obtain ⟨its, r, p, _⟩ := I.list h
    exact ⟨its, r, p.isList, p.lt⟩
  · obtain ⟨its, r, p, _⟩ := I.tuple h
    obtain ⟨o, e, _⟩ := id p
    exact ⟨its, r, p, Heap.lt_size e⟩
theorem sqk_inj {k : Bool} {a : Addr} {xs ys : List V} (I : Inv X pins σ H s) (h : SqK k X.K H a xs) (h' : SqK k X.K H a ys) : xs = ys := by
  cases k
  · exact I.list_inj h h'
  · exact I.tuple_inj h h'
end
/-! ### zip -/
def ItzG (k1 k2 : Bool) (K : PySem.W.Frag) (a b : Addr) : It :=
  ⟨fun i H => ∃ (xs ys : List V) (x y : V), SqK k1 K H a xs ∧ SqK k2 K H b ys ∧ xs[i]? = some x ∧ ys[i]? = some y,
    fun i H v H' => ∃ T x y, v = .ref T ∧ H T = none ∧ H' = upd H T (.tup [x, y]) ∧ (∀ xs, SqK k1 K H a xs → xs[i]? = some x) ∧ ∀ ys, SqK k2 K H b ys → ys[i]? = some y,
    fun i H => ∃ xs ys : List V, SqK k1 K H a xs ∧ SqK k2 K H b ys ∧ i ≤ xs.length ∧ i ≤ ys.length ∧ (i = xs.length ∨ i = ys.length)⟩
theorem five {z TI TO i1 i2 c : Addr} (h : c ∈ [z, TI, TO, i1, i2]) : c = z ∨ c = TI ∨ c = TO ∨ c = i1 ∨ c = i2 := by simpa using h
theorem turn_zipG {P : Program} {w : World} {K : PySem.W.Frag} {elts : List Expr} {kk : Nat} {tpos : Pos} {k1 k2 : Bool} {a b z TI TO i1 i2 : Addr} (S : ZipSep2 z TI TO i1 i2 [i1, a] [i2, b]) (ha : a ≠ i1) (hb : b ≠ i2) :
    Turn P w K (.Tuple elts kk tpos) (ItzG k1 k2 K a b) [z, TI, TO, i1, i2] z (fun i h => IsZip h z TI TO .none ∧ IsTupOf2 h TI (.ref i1) (.ref i2) ∧ (∃ x y, IsTupOf2 h TO x y) ∧ IsIt k1 h i1 a i ∧ IsIt k2 h i2 b i) where
  mem := by simp
  obj := fun i h st c hc => by
    obtain ⟨hz, hTI, ⟨x, y, hTO⟩, h1, h2⟩ := st
    rcases five hc with q | q | q | q | q
    · rw [q]; exact ⟨_, hz, fun v q => nomatch q⟩
    · rw [q]; exact ⟨_, hTI, fun v q => nomatch q⟩
    · rw [q]; exact ⟨_, hTO, fun v q => nomatch q⟩
    · rw [q]; exact h1.obj
    · rw [q]; exact h2.obj
  keep := fun i h h' ⟨hz, hTI, ⟨x, y, hTO⟩, h1, h2⟩ k =>
    ⟨k z (by simp) _ hz, k TI (by simp) _ hTI, ⟨x, y, k TO (by simp) _ hTO⟩, h1.at fun o q => k i1 (by simp) o q, h2.at fun o q => k i2 (by simp) o q⟩
  item := by
    intro X hP hw hK hc i pins s σ H E I hf ⟨hz, hTI, ⟨x0, y0, hTO⟩, h1, h2⟩ ⟨xs, ys, x, y, hqx, hqy, hx, hy⟩
    subst hP hw hK
    obtain ⟨its, rv, p, _⟩ := sqk I hqx
    obtain ⟨its2, rv2, p2, _⟩ := sqk I hqy
    obtain ⟨u, hu, ru⟩ := rv.get hx
    obtain ⟨u2, hu2, ru2⟩ := rv2.get hy
    have hzl : z < s.heap.objs.size := Heap.lt_size hz
    have l1 : i < its.toArray.size := by simpa using (List.getElem?_eq_some_iff.mp hu).1
    have l2 : i < its2.toArray.size := by simpa using (List.getElem?_eq_some_iff.mp hu2).1
    refine wpAny_pyNext_zipD2_item S (draws (A := X.A.in1) (I.ok.hd hc) k1 i1 a ha its.toArray) (draws (A := X.A.in1) (I.ok.hd hc) k2 i2 b hb its2.toArray) hz hTI hTO ⟨h1, p⟩ ⟨h2, p2⟩ l1 l2 fun v1 v2 h' tk e1 e2 z' TO' h1' h2' hT hsz hk => ?_
    have e1 : v1 = u := Option.some.inj (e1.symm.trans (by simpa using hu))
    have e2 : v2 = u2 := Option.some.inj (e2.symm.trans (by simpa using hu2))
    subst e1 e2
    refine ⟨_, rfl, wpAny_letOwnedTupleGo_zip (s := { s with heap := h', toks := tk }) z' fun h'' z'' sb => ?_⟩
    have hT2 : h''.get? s.heap.objs.size = some { cls := .type "tuple", data := .seq #[v1, v2] } := (sb.2 _ (Nat.ne_of_gt hzl)).trans hT
    have new : ObjOk X.prog X.w (upd H s.heap.objs.size (.tup [x, y])) h'' s.heap.objs.size (.tup [x, y]) :=
      ⟨by show 2 ≤ sizeLine; decide, [v1, v2], .cons ru (.cons ru2 .nil), ⟨_, hT2, rfl, _, rfl⟩⟩
    have I1 : Inv X pins σ (upd H s.heap.objs.size (.tup [x, y])) { s with heap := h'', toks := tk } :=
      I.turnedNew (ch := [z, TI, TO, i1, i2]) (fun c o hb q => (sb.2 c (fun q' => hb (by simp [q']))).trans (hk c o (fun q' => hb (by simp [q'])) (fun q' => hb (by simp [q'])) (fun q' => hb (by simp [q'])) (fun q' => hb (by simp [q'])) q)) hf (Nat.le_refl _) new
    refine ⟨.ref s.heap.objs.size, _, I1, rfl, ⟨_, x, y, rfl, I.hok.fresh (Nat.le_refl _), rfl, fun l hl => by rw [sqk_inj I hl hqx]; exact hx, fun l hl => by rw [sqk_inj I hl hqy]; exact hy⟩, ⟨z'', ?_, ⟨v1, v2, ?_⟩, ?_, ?_⟩, fun c hcm => ?_⟩
    · exact (sb.2 _ S.TIz).trans (hk _ _ S.TIz S.TITO S.TIi1 S.TIi2 hTI)
    · exact (sb.2 _ S.TOz).trans TO'
    · exact h1'.1.at fun o q => (sb.2 _ (Ne.symm S.zi1)).trans q
    · exact h2'.1.at fun o q => (sb.2 _ (Ne.symm S.zi2)).trans q
    · have hlt : c < s.heap.objs.size := by
        rcases five hcm with q | q | q | q | q
        · rw [q]; exact hzl
        · rw [q]; exact Heap.lt_size hTI
        · rw [q]; exact Heap.lt_size hTO
        · rw [q]; obtain ⟨_, e1, _⟩ := h1.obj; exact Heap.lt_size e1
        · rw [q]; obtain ⟨_, e2, _⟩ := h2.obj; exact Heap.lt_size e2
      rw [upd_ne (Nat.ne_of_lt hlt)]
      exact (hf c hcm).1
  done := by
    intro X hP hw hK hc i pins s σ H E I hf ⟨hz, hTI, ⟨x0, y0, hTO⟩, h1, h2⟩ ⟨xs, ys, hqx, hqy, hl1, hl2, hend⟩
    subst hP hw hK
    obtain ⟨its, rv, p, _⟩ := sqk I hqx
    obtain ⟨its2, rv2, p2, _⟩ := sqk I hqy
    have l1 := rv.length
    have l2 := rv2.length
    have e1 : its.toArray.size = xs.length := by simp [l1]
    have e2 : its2.toArray.size = ys.length := by simp [l2]
    exact wpAny_pyNext_zipD2_end S (draws (A := X.A.in1) (I.ok.hd hc) k1 i1 a ha its.toArray) (draws (A := X.A.in1) (I.ok.hd hc) k2 i2 b hb its2.toArray) hz hTI hTO ⟨h1, p⟩ ⟨h2, p2⟩ (by omega) (by omega) (by omega) fun h' tk hk => ⟨rfl, I.turnedL (ch := [z, TI, TO, i1, i2]) (fun c o hb q =>
      hk c o (fun q' => hb (by simp [q'])) (fun q' => hb (by simp [q'])) (fun q' => hb (by simp [q'])) (fun q' => hb (by simp [q'])) q) hf⟩
  self := fun A i s Q E st h => wpAny_pyIter_zip st.1 h
def iZipG (K : PySem.W.Frag) (ta : TA) : TI := fun σ H R => ta σ H fun vs H1 => ∃ a b k1 k2, vs = [.ref a, .ref b] ∧ (∃ xs, SqK k1 K H1 a xs) ∧ (∃ ys, SqK k2 K H1 b ys) ∧ R (ItzG k1 k2 K a b) H1
theorem nm {c x y : Nat} (h1 : c ≠ x) (h2 : c ≠ y) : c ∉ [x, y] := by simp [h1, h2]
theorem sep_of {N a b : Nat} (la : a < N) (lb : b < N) : ZipSep2 (N + 4) (N + 2) (N + 3) N (N + 1) [N, a] [N + 1, b] := by
  have e1 : N + 2 ≠ N + 4 := by omega
  have e2 : N + 3 ≠ N + 4 := by omega
  have e3 : N + 2 ≠ N + 3 := by omega
  have e4 : N + 2 ≠ N := by omega
  have e5 : N + 2 ≠ N + 1 := by omega
  exact ⟨e1, e2, e3, e4, List.mem_cons_self, nm (by omega) (by omega), nm (by omega) (by omega), e5, List.mem_cons_self, nm (by omega) (by omega), nm (by omega) (by omega), nm (by omega) (by omega), nm (by omega) (by omega)⟩
theorem pi_zipG {X : Cx} {e e2 : Expr} {ta : TA} {p pos tpos : Pos} {elts : List Expr} {kk : Nat} (hg : Gl X "zip") (hm : X.mg "zip" = none) (ha : PA X [e, e2] ta)
    (hs : starEach [e, e2] X.env = (false, eval e X.env) :: starEach [e2] X.env := by rfl) (hpl : (backTo pos (starEach [e2] X.env)).any (·.1) = false := by rfl) :
    PI X (.Tuple elts kk tpos) (.Call (.Name "zip" p) [e, e2] [] pos) (iZipG X.K ta) := by
  refine ⟨fun pins s σ H R I h => ?_⟩
  refine Call_ (ld_blt I hg hm PyProof.Rows.boot_zip (PyProof.Rows.callWith_type1 (thn (ha.run pos pins s σ H _ I h) fun us s1 ⟨vs, H1, I1, r1, q1⟩ => ?_) hs hpl))
  obtain ⟨a, b, k1, k2, ex, ⟨xs, hqx⟩, ⟨ys, hqy⟩, q⟩ := q1
  subst ex
  cases r1 with
  | cons r rr =>
    cases rr with
    | cons r' rr =>
      cases rr
      cases r
      cases r'
      obtain ⟨its, rv, p1, la⟩ := sqk I1 hqx
      obtain ⟨its2, rv2, p2, lb⟩ := sqk I1 hqy
      refine zip_begins2 (begins k1 a its.toArray) (begins k2 b its2.toArray) p1 p2 fun h' hz hTI hTO h1 h2 hsz hk => wpAny_pyIter_zip hz ?_
      have I2 : Inv X pins σ H1 { s1 with heap := h' } := I1.kept (t' := s1.toks) hk
      refine ⟨s1.heap.objs.size + 4, [s1.heap.objs.size + 4, s1.heap.objs.size + 2, s1.heap.objs.size + 3, s1.heap.objs.size, s1.heap.objs.size + 1], _, _, H1, rfl, I2, turn_zipG (sep_of la lb) (Nat.ne_of_lt la) (Nat.ne_of_lt (Nat.lt_succ_of_lt lb)), ⟨hz, hTI, ⟨_, _, hTO⟩, .zero h1, .zero h2⟩, fun c hcm => ?_, q⟩
      have hle : s1.heap.objs.size ≤ c := by
        rcases five hcm with z | z | z | z | z <;> rw [z] <;> first | exact Nat.le_add_right _ _ | exact Nat.le_refl _
      exact I1.fpOk hle (I1.hok.fresh hle)
/-! ### enumerate -/
def IteG (k : Bool) (K : PySem.W.Frag) (a : Addr) : It :=
  ⟨fun i H => ∃ (xs : List V) (x : V), SqK k K H a xs ∧ xs[i]? = some x, fun i H v H' => ∃ T x, v = .ref T ∧ H T = none ∧ H' = upd H T (.tup [.int (i : Nat), x]) ∧ ∀ xs, SqK k K H a xs → xs[i]? = some x, fun i H => ∃ xs : List V, SqK k K H a xs ∧ i = xs.length⟩
theorem turn_enumG {P : Program} {w : World} {K : PySem.W.Frag} {elts : List Expr} {kk : Nat} {tpos : Pos} {k : Bool} {a e it : Addr} (hne : e ≠ it) (hae : a ≠ e) (hai : a ≠ it) :
    Turn P w K (.Tuple elts kk tpos) (IteG k K a) [e, it] e (fun i h => (∃ old, IsEnum h e it ((i : Nat) : Int) old) ∧ IsIt k h it a i) where
  mem := by simp
  obj := fun i h ⟨⟨old, he⟩, hi⟩ b hb => by
    have e' : b = e ∨ b = it := by simpa using hb
    rcases e' with z | z
    · rw [z]; exact ⟨_, he, fun v q => nomatch q⟩
    · rw [z]; exact hi.obj
  keep := fun i h h' ⟨⟨old, he⟩, hi⟩ k => ⟨⟨old, k e (by simp) _ he⟩, hi.at fun o q => k it (by simp) o q⟩
  item := by
    intro X hP hw hK hc i pins s σ H E I hf ⟨⟨old, he⟩, hit⟩ ⟨xs, x, hq, hx⟩
    subst hP hw hK
    obtain ⟨its, rv, p, _⟩ := sqk I hq
    obtain ⟨u, hu, ru⟩ := rv.get hx
    have hel : e < s.heap.objs.size := Heap.lt_size he
    have hil : it < s.heap.objs.size := by obtain ⟨_, q, _⟩ := hit.obj; exact Heap.lt_size q
    have l1 : i < its.toArray.size := by simpa using (List.getElem?_eq_some_iff.mp hu).1
    refine wpAny_pyNext_enum_itemD (draws (A := X.A.in1) (I.ok.hd hc) k it a hai its.toArray) he ⟨hit, p⟩ l1 hne (by simp [hne, Ne.symm hae]) fun v h' tk e1 ho hit' hT hsz hk => ?_
    have e1 : v = u := Option.some.inj (e1.symm.trans (by simpa using hu))
    subst e1
    refine ⟨_, rfl, wpAny_letOwnedTupleGo_enum (s := { s with heap := h', toks := tk + 1 }) ho fun h'' he' sb => ?_⟩
    have hT2 : h''.get? s.heap.objs.size = some { cls := .type "tuple", data := .seq #[.int i tk, v] } := (sb.2 _ (Nat.ne_of_gt hel)).trans hT
    have new : ObjOk X.prog X.w (upd H s.heap.objs.size (.tup [.int (i : Nat), x])) h'' s.heap.objs.size (.tup [.int (i : Nat), x]) :=
      ⟨by show 2 ≤ sizeLine; decide, [.int i tk, v], .cons ⟨_, rfl⟩ (.cons ru .nil), ⟨_, hT2, rfl, _, rfl⟩⟩
    have I1 : Inv X pins σ (upd H s.heap.objs.size (.tup [.int (i : Nat), x])) { s with heap := h'', toks := tk + 1 } :=
      I.turnedNew (ch := [e, it]) (fun b ob hb q => (sb.2 b (fun z => hb (by simp [z]))).trans (hk b ob (fun z => hb (by simp [z])) (fun z => hb (by simp [z])) q)) hf (Nat.le_refl _) new
    refine ⟨.ref s.heap.objs.size, _, I1, rfl, ⟨_, x, rfl, I.hok.fresh (Nat.le_refl _), rfl, fun ys hy => by rw [sqk_inj I hy hq]; exact hx⟩, ⟨⟨v, ?_⟩, hit'.1.at fun o q => (sb.2 it (Ne.symm hne)).trans q⟩, fun b hb => ?_⟩
    · have e1 : ((i + 1 : Nat) : Int) = (i : Int) + 1 := by omega
      rw [e1]; exact he'
    · have hb' : b < s.heap.objs.size := by
        have e' : b = e ∨ b = it := by simpa using hb
        rcases e' with z | z
        · rw [z]; exact hel
        · rw [z]; exact hil
      rw [upd_ne (Nat.ne_of_lt hb')]
      exact (hf b hb).1
  done := by
    intro X hP hw hK hc i pins s σ H E I hf ⟨⟨old, he⟩, hit⟩ ⟨xs, hq, hx⟩
    subst hP hw hK
    obtain ⟨its, rv, p, _⟩ := sqk I hq
    obtain ⟨f0, f1, f2, f3, f4, f5⟩ := hf it (by simp)
    have e1 : i = its.toArray.size := by rw [hx, rv.length]; simp
    rw [e1] at hit
    exact wpAny_pyNext_enum_endD (draws (A := X.A.in1) (I.ok.hd hc) k it a hai its.toArray) he ⟨hit, p⟩ fun h' eb => ⟨rfl, I.turned (t' := s.toks) (fun b o hb q => eb b o hb q) f0 f1 f3 f4 f5⟩
  self := fun A i s Q E st h => let ⟨⟨_, he⟩, _⟩ := st; wpAny_pyIter_enum he h
theorem meets_enum1 {v : Value} {o : Obj} {H : Heap → Prop} (B : Begins v o H) :
    Meets (Builtin.«enumerate.__new__» ⟨[.type "enumerate", v], []⟩) (fun _ R s => H s.heap ∧
      R (.ok (.ret (.ref (s.heap.push o).objs.size))) { s with heap := (s.heap.push o).push { cls := .type "enumerate", data := .fields #[.none, .bool false, .ref s.heap.objs.size, rawInt 0, .none, .none] } }) :=
  .of_wp fun prog w A R s h => by
    obtain ⟨hp, g, d, tk, os⟩ := s
    obtain ⟨h1, h⟩ := h
    have hsub := sub_enumerate
    have q1 : ∀ {A' : Around} {E : Value → Shared → Prop} {Q : Value → Shared → Prop}, Q (.ref hp.objs.size) ⟨hp.push o, g, d, tk, os⟩ → wpAny (model prog w) A' (pyIter v) Q E ⟨hp, g, d, tk, os⟩ :=
      fun q => B.iter prog w _ _ ⟨hp, g, d, tk, os⟩ _ h1 q
    wp_walk using q1
    refine wpAny_stack_any fun st => wpAny_pure ?_
    split
    · rename_i c _ _ _ _ _
      cases (c == Value.type "enumerate")
      · wp_walk using q1
        exact ⟨_, rfl, h⟩
      · wp_walk using q1
        exact ⟨_, rfl, h⟩
    · wp_walk using q1
      exact ⟨_, rfl, h⟩
section
variable {prog : Program} {w : World} {A : Around} {E : Value → Shared → Prop} {s : Shared}
theorem enum1 {v : Value} {o : Obj} {H : Heap → Prop} {Q : Value → Shared → Prop} (B : Begins v o H) (h1 : H s.heap)
    (h : ∀ h', IsEnum h' (s.heap.objs.size + 1) s.heap.objs.size 0 .none → h'.get? s.heap.objs.size = some o → (∀ b o, s.heap.get? b = some o → h'.get? b = some o) → Q (.ref (s.heap.objs.size + 1)) { s with heap := h' }) :
    wpAny (model prog w) A (call (.type "enumerate") [v]) Q E s := by
  refine callType_new F.called_enumerate (by decide) (F.typeCall_enumerate_1 _) (F.newCall_enumerate_1 _) (fun obj => F.args_object_init_2 obj _) F.entry_enumerate_new (meets_enum1 B) ⟨h1, ?_⟩
  have hz : (s.heap.push o).objs.size = s.heap.objs.size + 1 := Heap.size_push ..
  show _ ∧ _
  rw [hz]
  have he : IsEnum ((s.heap.push o).push { cls := .type "enumerate", data := .fields #[.none, .bool false, .ref s.heap.objs.size, rawInt 0, .none, .none] }) (s.heap.objs.size + 1) s.heap.objs.size 0 .none := by
    have := Heap.get?_push_size (s.heap.push o) (o := { cls := .type "enumerate", data := .fields #[.none, .bool false, .ref s.heap.objs.size, rawInt 0, .none, .none] }) rfl
    rw [hz] at this
    exact this
  exact ⟨⟨_, he, rfl⟩, h _ he (Heap.get?_push_of_some _ (Heap.get?_push_size _ B.free)) fun b o x => Heap.get?_push_of_some _ (Heap.get?_push_of_some _ x)⟩
end
def iEnumG (K : PySem.W.Frag) (ta : TA) : TI := fun σ H R => ta σ H fun vs H1 => ∃ a k, vs = [.ref a] ∧ (∃ xs, SqK k K H1 a xs) ∧ R (IteG k K a) H1
theorem pi_enumG {X : Cx} {e : Expr} {ta : TA} {p pos tpos : Pos} {elts : List Expr} {kk : Nat} (hg : Gl X "enumerate") (hm : X.mg "enumerate" = none) (ha : PA X [e] ta) (hs : starEach [e] X.env = [(false, eval e X.env)] := by rfl) :
    PI X (.Tuple elts kk tpos) (.Call (.Name "enumerate" p) [e] [] pos) (iEnumG X.K ta) := by
  refine ⟨fun pins s σ H R I h => ?_⟩
  refine Call_ (ld_blt I hg hm boot_enumerate (PyProof.Rows.callWith_type1 (thn (ha.run pos pins s σ H _ I h) fun us s1 ⟨vs, H1, I1, r1, q1⟩ => ?_) hs rfl))
  obtain ⟨a, k, ex, ⟨xs, hq⟩, q⟩ := q1
  subst ex
  cases r1 with
  | cons r rr =>
    cases rr
    cases r
    obtain ⟨its, rv, p', la⟩ := sqk I1 hq
    refine enum1 (begins k a its.toArray) p' fun h' he hit hk => wpAny_pyIter_enum he ?_
    have I2 : Inv X pins σ H1 { s1 with heap := h' } := I1.kept (t' := s1.toks) hk
    refine ⟨s1.heap.objs.size + 1, [s1.heap.objs.size + 1, s1.heap.objs.size], _, _, H1, rfl, I2, turn_enumG (Nat.succ_ne_self _) (Nat.ne_of_lt (Nat.lt_succ_of_lt la)) (Nat.ne_of_lt la), ⟨⟨.none, he⟩, .zero hit⟩, fun b hb => ?_, q⟩
    have e' : b = s1.heap.objs.size + 1 ∨ b = s1.heap.objs.size := by simpa using hb
    have hle : s1.heap.objs.size ≤ b := by
      rcases e' with z | z <;> rw [z] <;> first | exact Nat.le_add_right _ _ | exact Nat.le_refl _
    exact I1.fpOk hle (I1.hok.fresh hle)
end PZ
set_option maxHeartbeats 2000000
/-! PD 14: zip, enumerate, slices, isinstance. -/
namespace PD
open PySem PySem.Spec PyProof.Rows L2 PySem.W
section
variable {X : Cx} {Γ : List Kd} {A : Addr → Prop} {B : Hp} {E : XK} {k : Nat} {e a b : Expr} {fa fb fl : Fl} {ma mb : ME} {p pos tpos : Pos} {elts : List Expr} {kk : Nat}
/-! ### zip, enumerate -/
def zipD : List PyData → List PyData → List PyData
  | x :: xs, y :: ys => .tuple [x, y] :: zipD xs ys
  | _, _ => []
theorem zipD_get : ∀ {xs ys : List PyData} {i : Nat} {z : PyData}, (zipD xs ys)[i]? = some z → ∃ x y, xs[i]? = some x ∧ ys[i]? = some y ∧ z = .tuple [x, y]
  | [], _, _, _, h => by simp [zipD] at h
  | _ :: _, [], _, _, h => by simp [zipD] at h
  | x :: xs, y :: ys, 0, z, h => ⟨x, y, rfl, rfl, by simpa [zipD] using h.symm⟩
  | x :: xs, y :: ys, i + 1, z, h => by
    obtain ⟨x', y', h1, h2, h3⟩ := zipD_get (xs := xs) (ys := ys) (i := i) (z := z) (by simpa [zipD] using h)
    exact ⟨x', y', by simpa using h1, by simpa using h2, h3⟩
theorem zipD_len : ∀ (xs ys : List PyData), (zipD xs ys).length = min xs.length ys.length
  | [], _ => by simp [zipD]
  | _ :: _, [] => by simp [zipD]
  | _ :: xs, _ :: ys => by simp [zipD, zipD_len xs ys]
def enumFrom (n : Nat) : List PyData → List PyData
  | [] => []
  | x :: xs => .tuple [.int n, x] :: enumFrom (n + 1) xs
theorem enumFrom_get : ∀ {xs : List PyData} {n i : Nat} {z : PyData}, (enumFrom n xs)[i]? = some z → ∃ x, xs[i]? = some x ∧ z = .tuple [.int ((n + i : Nat) : Int), x]
  | [], _, _, _, h => by simp [enumFrom] at h
  | x :: xs, n, 0, z, h => ⟨x, rfl, by simpa [enumFrom] using h.symm⟩
  | x :: xs, n, i + 1, z, h => by
    obtain ⟨x', h1, h2⟩ := enumFrom_get (xs := xs) (n := n + 1) (i := i) (z := z) (by simpa [enumFrom] using h)
    exact ⟨x', by simpa using h1, by rw [h2, show n + 1 + i = n + (i + 1) by omega]⟩
theorem enumFrom_len : ∀ (xs : List PyData) (n : Nat), (enumFrom n xs).length = xs.length
  | [], _ => rfl
  | _ :: xs, n => congrArg (· + 1) (enumFrom_len xs (n + 1))
/-- a source of turns: a list or a tuple, of what kind -/
def QSrc (w : Bool) (K : PySem.W.Frag) (fl : Fl) (A : Addr → Prop) (B : Hp) (O : Ow) (H : Hp) (a : Addr) (q : Bool) (xs : List PyData) : Prop :=
  ∀ (A' : Addr → Prop) (O' : Ow) (H' : Hp), Step O H O' H' → (w = false → O' = O ∧ Same H H') → (∀ a, A' a → A a ∨ H a = none) → Cor A' B O' H' → ∃ vs, PZ.SqK q K H' a vs ∧ DvAll K H' (sset fl A' O') vs xs
theorem qsrc {w : Bool} {K : PySem.W.Frag} {O : Ow} {H : Hp} {env : En} {σ : L2.St} {v : V} {x : PyData} {xs : List PyData} (m : Sim K Γ A B O H env σ) (hw : w = true → fa.walks = true) (r : VRel K fa A B O H v x) (e : seqOf x = some xs) : ∃ a q, v = .ref a ∧ (∃ vs, PZ.SqK q K H a vs) ∧ QSrc w K fa.el A B O H a q xs := by
  have c := m.cor
  cases x with
  | list ys =>
    cases e
    cases w with
    | true =>
      obtain ⟨l, vs, rfl, h1, h2, h3⟩ := walks_no c (hw rfl) r
      refine ⟨l, false, rfl, ⟨vs, .inl h1⟩, fun A' O' H' st hs ha c' => ⟨vs, .inl (rd_keep (.inl rfl) (fun o e => st.keep l o h2 e) h1), dv_step (fun _ => walks_el (hw rfl)) hs ha h3 st⟩⟩
    | false =>
      obtain ⟨l, vs, rfl, h1, h3⟩ := (r.items c).1 xs rfl
      refine ⟨l, false, rfl, ⟨vs, h1.sq⟩, fun A' O' H' st hs ha c' => ⟨vs, .inl (rd_keep (.inl rfl) (fun o e => (hs rfl).2 l o e) h1.2), dv_step (fun z => by cases z) hs ha h3 st⟩⟩
  | tuple ys =>
    cases e
    obtain ⟨l, vs, rfl, h1, h3⟩ := (r.items c).2 xs rfl
    refine ⟨l, true, rfl, ⟨vs, h1.sq⟩, fun A' O' H' st hs ha c' => ⟨vs, ?_, dv_step (fun z => walks_el (hw z)) hs ha h3 st⟩⟩
    rcases h1 with ⟨n, h1⟩ | h1
    · refine .inl (rd_keep (.inr rfl) (fun o e => st.keep l o (fun ⟨i, z⟩ => ?_) e) h1)
      obtain ⟨ws, e2⟩ := m.lists i l z
      rcases h1 with h1 | ⟨o2, h1⟩ <;> rw [h1] at e2 <;> cases e2
    · exact .inr h1
  | _ => cases e
def mZip (a b : ME) : ML := fun env => (a env).bind fun x => (b env).bind fun y => (Res.opt (seqOf x)).bind fun xs => (Res.opt (seqOf y)).bind fun ys => .ok (zipD xs ys)
def mEnum (a : ME) : ML := fun env => (a env).bind fun x => (Res.opt (seqOf x)).bind fun xs => .ok (enumFrom 0 xs)
theorem pair_same {K : PySem.W.Frag} {O : Ow} {H : Hp} {T : Addr} {v u : V} {x y : PyData} (hb : fl.bare) (c : Cor A B O H) (hT : H T = none) (d : DvAll K H (sset fl A O) [v, u] [x, y]) : Same H (upd H T (.tup [v, u])) ∧ VRel K fl A B O (upd H T (.tup [v, u])) (.ref T) (.tuple [x, y]) :=
  ⟨laid_same hT, VRel.of_dv hb (.tup (.inl ⟨new_s c hT, .inl upd_same⟩) (d.same (laid_same hT)))⟩
theorem dvAll_inj {K : PySem.W.Frag} {H : Hp} {S : Addr → Prop} {vs : List V} {xs : List PyData} {i : Nat} {v : V} {x : PyData} (h : DvAll K H S vs xs) (e : vs[i]? = some v) (e2 : xs[i]? = some x) : Dv K H S v x := by
  obtain ⟨d, h1, h2⟩ := h.getV e
  rw [e2] at h1
  cases h1
  exact h2
theorem i_zip {w : Bool} (hwa : w = true → fa.walks = true) (hwb : w = true → fb.walks = true) (hm : X.mg "zip" = none) (ha : PE X a (tE X.K Γ A B E fa ma)) (hb : PE X b (tE X.K Γ A B E fb mb)) (hg : Gl X "zip" := by rfl)
    (hs : starEach [a, b] X.env = (false, eval a X.env) :: starEach [b] X.env := by rfl) (hpl : (backTo pos (starEach [b] X.env)).any (·.1) = false := by rfl) (hs2 : starEach [b] X.env = (false, eval b X.env) :: starEach [] X.env := by rfl) :
    PI X (.Tuple elts kk tpos) (.Call (.Name "zip" p) [a, b] [] pos) (tI w X.K Γ A B E (fa.el.join fb.el) (mZip ma mb)) := by
  have hP := PZ.pi_zipG (elts := elts) (kk := kk) (tpos := tpos) (p := p) (pos := pos) hg hm (l_cons ha (l_cons hb l_nil hs2) hs) hs hpl
  refine ⟨fun pins s σ H R I ⟨O, env, m, q⟩ => hP.run pins s σ H R I ⟨O, env, m, ?_⟩⟩
  unfold mZip at q
  unfold mCons
  cases e1 : ma env with
  | bad => simp only [Res.bind, e1] at q
  | exc c x => simp only [Res.bind, e1] at q ⊢; exact q
  | ok x =>
    cases e2 : mb env with
    | bad => simp only [Res.bind, e1, e2] at q
    | exc c x => simp only [Res.bind, e1, e2] at q ⊢; exact q
    | ok y =>
      simp only [Res.bind, Res.opt, e1, e2, mNil] at q ⊢
      cases e3 : seqOf x with
      | none => simp only [e3] at q
      | some xs =>
        cases e4 : seqOf y with
        | none => simp only [e3, e4] at q
        | some ys =>
          simp only [e3, e4] at q
          intro vs H1 s1 r1
          cases r1 with
          | cons r1 rr =>
            cases rr with
            | cons r2 rr =>
              cases rr
              have m1 := m.up s1
              obtain ⟨l1, q1, rfl, ex1, S1⟩ := qsrc m1 hwa r1 e3
              obtain ⟨l2, q2, rfl, ex2, S2⟩ := qsrc m1 hwb r2 e4
              refine ⟨l1, l2, q1, q2, rfl, ex1, ex2, q _ H1 s1 fun A' O' H' st hs' hA c' => ?_⟩
              obtain ⟨us1, sq1, d1⟩ := S1 A' O' H' st hs' hA c'
              obtain ⟨us2, sq2, d2⟩ := S2 A' O' H' st hs' hA c'
              have n1 := d1.length
              have n2 := d2.length
              refine ⟨fun i z hz => ?_, ⟨us1, us2, sq1, sq2, ?_⟩⟩
              · obtain ⟨x1, y1, h1, h2, rfl⟩ := zipD_get hz
                obtain ⟨v1, g1, _⟩ := d1.get h1
                obtain ⟨v2, g2, _⟩ := d2.get h2
                refine ⟨⟨us1, us2, v1, v2, sq1, sq2, g1, g2⟩, fun v H2 ⟨T, t1, t2, ev, hT, eH, k1, k2⟩ => ?_⟩
                subst ev eH
                have f1 := dvAll_inj d1 (k1 us1 sq1) h1
                have f2 := dvAll_inj d2 (k2 us2 sq2) h2
                exact pair_same (join_nf _ _) c' hT (.cons (f1.less fun a z => (sset_join z).1) (.cons (f2.less fun a z => (sset_join z).2) .nil))
              · have n3 := zipD_len xs ys
                rw [n3, n1, n2]
                refine ⟨Nat.min_le_left _ _, Nat.min_le_right _ _, ?_⟩
                omega
theorem i_enum {w : Bool} (hwa : w = true → fa.walks = true) (hm : X.mg "enumerate" = none) (ha : PE X a (tE X.K Γ A B E fa ma)) (hg : Gl X "enumerate" := by rfl) (hs : starEach [a] X.env = [(false, eval a X.env)] := by rfl) :
    PI X (.Tuple elts kk tpos) (.Call (.Name "enumerate" p) [a] [] pos) (tI w X.K Γ A B E fa.el (mEnum ma)) := by
  have hP := PZ.pi_enumG (elts := elts) (kk := kk) (tpos := tpos) (p := p) (pos := pos) hg hm (l_cons ha l_nil (by rw [hs]; rfl)) hs
  refine ⟨fun pins s σ H R I ⟨O, env, m, q⟩ => hP.run pins s σ H R I ⟨O, env, m, ?_⟩⟩
  unfold mEnum at q
  unfold mCons
  cases e1 : ma env with
  | bad => simp only [Res.bind, e1] at q
  | exc c x => simp only [Res.bind, e1] at q ⊢; exact q
  | ok x =>
    simp only [Res.bind, Res.opt, e1, mNil] at q ⊢
    cases e3 : seqOf x with
    | none => simp only [e3] at q
    | some xs =>
      simp only [e3] at q
      intro vs H1 s1 r1
      cases r1 with
      | cons r1 rr =>
        cases rr
        have m1 := m.up s1
        obtain ⟨l1, q1, rfl, ex1, S1⟩ := qsrc m1 hwa r1 e3
        refine ⟨l1, q1, rfl, ex1, q _ H1 s1 fun A' O' H' st hs' hA c' => ?_⟩
        obtain ⟨us1, sq1, d1⟩ := S1 A' O' H' st hs' hA c'
        have n1 := d1.length
        refine ⟨fun i z hz => ?_, ⟨us1, sq1, by rw [enumFrom_len, n1]⟩⟩
        obtain ⟨x1, h1, rfl⟩ := enumFrom_get hz
        obtain ⟨v1, g1, _⟩ := d1.get h1
        refine ⟨⟨us1, v1, sq1, g1⟩, fun v H2 ⟨T, t1, ev, hT, eH, k1⟩ => ?_⟩
        subst ev eH
        have f1 := dvAll_inj d1 (k1 us1 sq1) h1
        rw [Nat.zero_add]
        exact pair_same (el_bare _) c' hT (.cons (.int _) (.cons f1 .nil))

/-! ### slices -/
def tO (K : PySem.W.Frag) (Γ : List Kd) (A : Addr → Prop) (B : Hp) (E : XK) (m : MO) : TO := fun σ H Q => ∃ O env, Sim K Γ A B O H env σ ∧ match m env with
  | .ok o => ∀ H', Same H H' → Q o H'
  | .exc c x => XOk K A B E c x
  | .bad => False
theorem o_no : PO X none (tO X.K Γ A B E mNo) := ⟨fun pins s σ H Q I ⟨O, env, m, q⟩ => po_none.run pins s σ H Q I (q H (Same.refl H))⟩
theorem o_part (h : PE X e (tE X.K Γ A B E fa ma)) : PO X (some e) (tO X.K Γ A B E (mPart ma)) := by
  refine ⟨fun pins s σ H Q I ⟨O, env, m, q⟩ => (po_some h).run pins s σ H Q I ⟨O, env, m, ?_⟩⟩
  unfold mPart at q
  cases e1 : ma env with
  | bad => rw [e1] at q; exact q
  | exc c x => rw [e1] at q; exact q
  | ok x =>
    rw [e1] at q
    intro v H1 s1 r1
    simp only [Res.bind] at q
    cases x with
    | int i =>
      cases r1.any (m.cor.up s1)
      exact ⟨i, rfl, q H1 s1⟩
    | _ => exact q.elim
end
end PD
set_option maxHeartbeats 2000000
/-! PD 15: slices, isinstance. -/
namespace PD
open PySem PySem.Spec PyProof.Rows L2 PySem.W
section
variable {X : Cx} {Γ : List Kd} {A : Addr → Prop} {B : Hp} {E : XK} {k : Nat} {e a b : Expr} {fa fb fl : Fl} {ma mb : ME} {p pos tpos : Pos} {elts : List Expr} {kk : Nat}
/-! ### slices -/
def cutSD (z : Str) (lo hi : Option Int) : Option PyData := match Nat.ble z.length 16777216 with
  | true => some (.str (cutS z lo hi))
  | false => none
def fSlA (x : PyData) (lo hi : Option Int) : Option PyData := match x with
  | .list xs => some (.list (cutD xs lo hi))
  | .tuple xs => some (.tuple (cutD xs lo hi))
  | .str z => cutSD z lo hi
  | _ => none
def mSlA (a : ME) (l h : MO) : ME := fun env => (a env).bind fun x => (l env).bind fun lo => (h env).bind fun hi => .opt (fSlA x lo hi)
def rSlAll (K : PySem.W.Frag) : V → Option Int → Option Int → Hp → VK → Prop := fun x lo hi H Q => rSlA K x lo hi H Q ∨ (rSlL K x lo hi H Q ∨ rSlS x lo hi H Q)
theorem sl_all : SlR X (rSlAll X.K) := sl_tupA.or (sl_list.or sl_str)
theorem cut_dv {K : PySem.W.Frag} {H : Hp} {S : Addr → Prop} {vs : List V} {xs : List PyData} (h : DvAll K H S vs xs) (lo hi : Option Int) : DvAll K H S (cutV vs lo hi) (cutD xs lo hi) := by
  unfold cutV cutD
  rw [h.length]
  exact (h.drop _).take _
theorem cut_whole {xs : List PyData} {lo hi : Option Int} (h : HT.sIx xs.length 0 lo = 0 ∧ HT.sIx xs.length xs.length hi = xs.length) : cutD xs lo hi = xs := by
  unfold cutD
  rw [h.1, h.2]
  simp
theorem j_sl {p2 : Pos} {lo hi : Option Expr} {ml mh : MO} (ha : PE X a (tE X.K Γ A B E fa ma)) (hl : PO X lo (tO X.K Γ A B E ml)) (hh : PO X hi (tO X.K Γ A B E mh)) :
    PE X (.Subscript a (.Slice lo hi none p2) pos) (tE X.K Γ A B E fa.el (mSlA ma ml mh)) := by
  refine ⟨fun pins s σ H Q I ⟨O, env, m, q⟩ => (pe_slice sl_all ha hl hh).run pins s σ H Q I ⟨O, env, m, ?_⟩⟩
  unfold mSlA at q
  cases e1 : ma env with
  | bad => rw [e1] at q; exact q
  | exc c x => rw [e1] at q; exact q
  | ok x =>
    rw [e1] at q
    simp only [Res.bind] at q
    intro v H1 s1 r1
    refine ⟨O, env, m.up s1, ?_⟩
    cases e2 : ml env with
    | bad => rw [e2] at q; exact q
    | exc c x => rw [e2] at q; exact q
    | ok lo' =>
      rw [e2] at q
      simp only at q
      intro H2 s2
      refine ⟨O, env, m.up (s1.trans s2), ?_⟩
      cases e3 : mh env with
      | bad => rw [e3] at q; exact q
      | exc c x => rw [e3] at q; exact q
      | ok hi' =>
        rw [e3] at q
        simp only at q
        intro H3 s3
        have c3 := m.cor.up ((s1.trans s2).trans s3)
        have s123 := (s1.trans s2).trans s3
        have r3 : VRel X.K fa A B O H3 v x := r1.same (s2.trans s3)
        cases x with
        | list xs =>
          simp only [fSlA, Res.opt] at q
          obtain ⟨l, us, rfl, h1, h2⟩ := (r3.items c3).1 xs rfl
          refine .inr (.inl ⟨l, us, rfl, h1.sq, fun t ht => q _ _ (s123.trans (laid_same ht)) (VRel.of_dv (el_bare _) (.lst ⟨new_s c3 ht, .inl upd_same⟩ ((cut_dv h2 _ _).same (laid_same ht))))⟩)
        | tuple xs =>
          simp only [fSlA, Res.opt] at q
          obtain ⟨l, us, ev, h1, h2⟩ := (r3.items c3).2 xs rfl
          have hl := h2.length
          refine .inl ⟨l, us, ev, h1.sq, fun hw => ?_, fun hw t ht => ?_⟩
          · rw [hl] at hw
            rw [cut_whole hw] at q
            have rr : VRel X.K fa.el A B O H3 v (.tuple xs) := by
              cases fa with
              | f => obtain ⟨_, _, _, _, e5, _⟩ := r3; cases e5
              | o => obtain ⟨_, _, _, _, e5, _⟩ := r3; cases e5
              | _ => exact r3
            rw [ev] at rr
            exact q _ H3 s123 rr
          · exact q _ _ (s123.trans (laid_same ht)) (VRel.of_dv (el_bare _) (.tup (.inl ⟨new_s c3 ht, .inl upd_same⟩) ((cut_dv h2 _ _).same (laid_same ht))))
        | str z =>
          simp only [fSlA, cutSD] at q
          cases e4 : Nat.ble z.length 16777216 with
          | false => simp only [e4, Res.opt] at q
          | true =>
            simp only [e4, Res.opt] at q
            cases r3.any c3
            exact .inr (.inr ⟨z, rfl, len_ble e4, q _ H3 s123 (VRel.of_dv (el_bare _) (.str _))⟩)
        | _ => exact q.elim

/-! ### isinstance -/
inductive Ty where
  | int | bool | str | tuple | list
def Ty.nm : Ty → String
  | .int => "int"
  | .bool => "bool"
  | .str => "str"
  | .tuple => "tuple"
  | .list => "list"
def Ty.of : Ty → PyData → Option Bool
  | .int, .bool _ => some true
  | .int, .int _ => some true
  | .bool, .bool _ => some true
  | .str, .str _ => some true
  | .tuple, .tuple _ => some true
  | .list, .list _ => some true
  | _, .dict _ => none
  | _, _ => some false
def fIsa (t : Ty) (x : PyData) : Option PyData := match t.of x with
  | some b => some (.bool b)
  | none => none
theorem isa_none (t : Ty) : kitB "NoneType" t.nm = t.of .none := by cases t <;> kernel_rfl
theorem isa_bool (t : Ty) : kitB "bool" t.nm = t.of (.bool true) := by cases t <;> kernel_rfl
theorem isa_int (t : Ty) : kitB "int" t.nm = t.of (.int 0) := by cases t <;> kernel_rfl
theorem isa_str (t : Ty) : kitB "str" t.nm = t.of (.str Str.empty) := by cases t <;> kernel_rfl
theorem isa_tuple (t : Ty) : kitB "tuple" t.nm = t.of (.tuple []) := by cases t <;> kernel_rfl
theorem isa_list (t : Ty) : kitB "list" t.nm = t.of (.list []) := by cases t <;> kernel_rfl
theorem isa_ty {K : PySem.W.Frag} {H : Hp} {S : Addr → Prop} {v : V} {x : PyData} {t : Ty} {r : Bool} (h : Dv K H S v x) (e : t.of x = some r) : ∃ n, TyX K H v (.type n) ∧ PySem.W.kitOne K (.type n) (.type t.nm) = some r := by
  cases h with
  | non => exact ⟨"NoneType", .base .non, kit_ty ((isa_none t).trans e)⟩
  | bl b => exact ⟨"bool", .base (.bl b), kit_ty ((isa_bool t).trans (by cases t <;> exact e))⟩
  | int i => exact ⟨"int", .base (.int i), kit_ty ((isa_int t).trans (by cases t <;> exact e))⟩
  | str z => exact ⟨"str", .base (.str z), kit_ty ((isa_str t).trans (by cases t <;> exact e))⟩
  | lst h1 h2 =>
    refine ⟨"list", ?_, kit_ty ((isa_list t).trans (by cases t <;> exact e))⟩
    rcases h1.2 with h | ⟨o, h⟩
    · exact .base (.lst h)
    · exact .base (.frz h)
  | tup h1 h2 =>
    refine ⟨"tuple", ?_, kit_ty ((isa_tuple t).trans (by cases t <;> exact e))⟩
    rcases h1 with ⟨_, h | ⟨o, h⟩⟩ | ⟨o, its, n, h, c, _⟩
    · exact .base (.tup h)
    · exact .fTuple h
    · exact .kTuple h c
  | clo h1 h2 => cases t <;> cases e
  | exd h1 h2 => cases t <;> cases e
  | dct h0 h1 h2 => cases t <;> cases e
  | fnc h0 h1 => cases t <;> cases e
theorem j_isa {t : Ty} {x : Str} {p2 : Pos} (hm : X.mg "isinstance" = none) (ha : PE X a (tE X.K Γ A B E fa ma)) (hb : PE X (.Name x p2) (tC (.ty t.nm))) (hg : Gl X "isinstance" := by rfl)
    (hs : starEach [a, .Name x p2] X.env = (false, eval a X.env) :: starEach [.Name x p2] X.env := by rfl) (hs2 : starEach [.Name x p2] X.env = (false, eval (.Name x p2) X.env) :: starEach [] X.env := by rfl) (hpl : (backTo pos (starEach [.Name x p2] X.env)).any (·.1) = false := by rfl) :
    PE X (.Call (.Name "isinstance" p) [a, .Name x p2] [] pos) (tE X.K Γ A B E .p (mOp1 (fIsa t) ma)) := by
  have hP := pe_callB (pos := pos) (p := p) call_isi hg hm PyProof.Rows.boot_isinstance (pa_cons ha (pa_cons hb pa_nil hs2) hs) (he := hs) (hpl := hpl)
  refine ⟨fun pins s σ H Q I ⟨O, env, m, q⟩ => hP.run pins s σ H Q I ⟨O, env, m, ?_⟩⟩
  unfold mOp1 at q
  cases e1 : ma env with
  | bad => rw [e1] at q; exact q
  | exc c x => rw [e1] at q; exact q
  | ok x =>
    rw [e1] at q
    intro v H1 s1 r1
    simp only [Res.bind, fIsa] at q
    cases e2 : t.of x with
    | none => simp only [e2, Res.opt] at q
    | some r =>
      simp only [e2, Res.opt] at q
      obtain ⟨n, h1, h2⟩ := isa_ty (r1.any (m.cor.up s1)) e2
      exact ⟨v, .ty t.nm, .type n, .type t.nm, r, rfl, .ty _, h1, h2, q _ H1 s1 (.bl r)⟩
end
end PD
set_option maxHeartbeats 3200000
/-! set(xs), xs a list of ints. -/
namespace PZ
open PySem PySem.Spec PyProof.Rows L2
/-- an empty set, as it is made -/
abbrev se0 (w : World) : Obj := { cls := .type "set", dict := none, data := .set #[] 0 (.fresh 0 0 (!w.params.followText "set-order")) }
section
variable {P : Program} {w : World} {A : Around} {E : Value → Shared → Prop} {s : Shared}
def SetEnd (w : World) (s : Shared) (ns : List Int) (s₂ : Shared) : Prop := ∃ h' tk c, s₂ = { s with heap := h', toks := tk } ∧ SetR w h' s.heap.objs.size (fun j => decide (j ∈ ns)) c ∧ c ≤ ns.length ∧ ∀ b o, s.heap.get? b = some o → h'.get? b = some o
theorem set_listI {l : Addr} {items : Array Value} (ns : List Int) {Q : Value → Shared → Prop} (hh : A.handled = none) (hl : s.heap.IsList l items) (hit : IntsAre items.toList ns) (hb : ns.length + 1 < scanBound)
    (h : ∀ s₂, SetEnd w s ns s₂ → Q (.ref s.heap.objs.size) s₂) : wpAny (model P w) A (call (.type "set") [.ref l]) Q E s := by
  have hisz : items.size = ns.length := Array.length_toList.symm.trans (IntsAre.length hit)
  obtain ⟨c, tl, hmro⟩ := F.called_set.mro
  have g1 := F.called_set.made
  have g2 := F.called_set.sub
  refine wpAny_call (codeAny_of_tree ?_)
  show wpAny _ _ (callAny (.type "set") _) _ _ _
  refine wpAny_pure ⟨Code.quiet_builtin _ (by decide +kernel), codeAny_builtin F.entry_type_call ?_⟩
  rw [Around.under_plain (weight_type_call_type "set" [.ref l] []) rfl]
  have g3 := F.called_set.notType
  have g4 := F.called_set.canCreate
  have g5 := F.typeCall_set_1 (.ref l)
  repeat (any_goals (first | assumption | wp_step))
  refine codeAny_mono (code_set_led1 (.ref l) (E := E) (Q₁ := fun obj s₁ => obj = .ref s.heap.objs.size ∧ s₁ = { s with heap := s.heap.push (se0 w) }) ⟨rfl, rfl⟩) fun r s₁ hr => ?_
  match r, hr with
  | .error e, hr => exact hr
  | .ok .next, hr => exact hr.elim
  | .ok .brk, hr => exact hr.elim
  | .ok .cont, hr => exact hr.elim
  | .ok (.ret obj), hr =>
    obtain ⟨rfl, rfl⟩ := hr
    have hS : (s.heap.push (se0 w)).get? s.heap.objs.size = some (se0 w) := Heap.get?_push_size _ rfl
    have hT : Shared.TypeIs { s with heap := s.heap.push (se0 w) } (.ref s.heap.objs.size) "set" := ⟨_, hS, rfl⟩
    have g6 := F.called_set.init.lookup
    have g7 := F.called_set.init.bind (.ref s.heap.objs.size)
    repeat (any_goals (first | assumption | wp_step))
    refine codeAny_mono (codeAny_call_builtin (R := wants (fun r s₂ => r = .none ∧ SetEnd w s ns s₂) E) F.called_set.init.plain F.entry_set_init (check_set_init_1 hT ?_)) fun r₂ s₂ hr₂ => ?_
    · obtain ⟨ol, hol, hcl, nl, hdl⟩ := hl
      obtain ⟨ocls, odict, odata, oslots⟩ := ol
      simp only at hcl hdl
      subst hcl hdl
      have hol' : (s.heap.push (se0 w)).get? l = some { cls := .type "list", dict := odict, data := .seq items nl, slots := oslots } := Heap.get?_push_of_some _ hol
      have g8 := F.sub_list_set
      have g9 := F.sub_list_frozenset
      have g10 : (Value.type "list" == Value.type "dict") = false := by decide
      have hl1 : (s.heap.push (se0 w)).IsList l items := ⟨_, hol', rfl, nl, rfl⟩
      unfold Builtin.«set.__init__» noKeywords Builtin.Frozenset.updateFrom
      generalize hPI : pyIter = PI
      wp_walk
      subst hPI
      refine wpAny_pyIter_list hl1 ?_
      refine wpAny_bind (wpAny_runValue ?_)
      have hlS : l < s.heap.objs.size := Heap.lt_size hol
      have n1 : (s.heap.push (se0 w)).objs.size = s.heap.objs.size + 1 := Heap.size_push ..
      have n2 : l ≠ (s.heap.push (se0 w)).objs.size := by
        rw [n1]
        exact Nat.ne_of_lt (Nat.lt_succ_of_lt hlS)
      have n3 : s.heap.objs.size ∉ [(s.heap.push (se0 w)).objs.size, l] := by
        rw [n1]
        simp only [List.mem_cons, List.not_mem_nil, or_false, not_or]
        exact ⟨Nat.ne_of_lt (Nat.lt_succ_self _), Nat.ne_of_gt hlS⟩
      have hval : ∀ (i : Nat) (v : Value), items[i]? = some v → ∃ k t, ns[i]? = some k ∧ v = .int k t := fun i v hv => by
        have hi : i < ns.length := hisz ▸ (Array.getElem?_eq_some_iff.mp hv).1
        obtain ⟨t, e⟩ := PyProof.Rows.IntsAre.int_at hit i v (by rw [Array.getElem?_toList]; exact hv)
        exact ⟨ns[i], t, List.getElem?_eq_getElem hi, by rw [e, List.getD_eq_getElem?_getD, List.getElem?_eq_getElem hi] <;> rfl⟩
      refine set_update_ints ((Walks.list (by simp [hh]) _ l n2 items).toS) s.heap.objs.size n3 ns hisz hb hval (items.size - 0) 0 _ (by omega) (Nat.zero_le _)
        ⟨⟨_, Heap.get?_push_size _ rfl, rfl, rfl⟩, hl1.push _⟩ ⟨0, Nat.le_refl 0, setR_new_at (Heap.get?_push_of_some _ hS)⟩ fun s' c' hm hc' hS' => ?_
      obtain ⟨h', g, d', tk', os'⟩ := s'
      have eg : g = s.gens := hm.gens
      have ed : d' = s.drawn := hm.drawn
      have eo : os' = s.os := hm.os
      subst eg ed eo
      show wpAny _ _ _ _ _ _
      refine wpAny_pure ?_
      show wpAny _ _ (ret Value.none) _ _ _
      refine wpAny_pure ⟨rfl, h', tk', c', rfl, hS', hisz ▸ hc', fun b o e => ?_⟩
      have b0 : b < s.heap.objs.size := Heap.lt_size e
      refine hm.heap b o ?_ (Heap.get?_push_of_some _ (Heap.get?_push_of_some _ e))
      rw [n1]
      simp only [List.mem_cons, List.not_mem_nil, or_false, not_or]
      exact ⟨Nat.ne_of_lt b0, Nat.ne_of_lt (Nat.lt_succ_of_lt b0)⟩
    · match r₂, hr₂ with
      | .error e, hr₂ => exact hr₂
      | .ok .next, hr₂ => exact hr₂.elim
      | .ok .brk, hr₂ => exact hr₂.elim
      | .ok .cont, hr₂ => exact hr₂.elim
      | .ok (.ret r), hr₂ =>
        obtain ⟨rfl, hE⟩ := hr₂
        repeat (any_goals (first | assumption | wp_step))
        exact h _ hE
theorem set_tupI {l : Addr} {items : Array Value} (ns : List Int) {Q : Value → Shared → Prop} (hh : A.handled = none) (hl : s.heap.IsTuple l items) (hit : IntsAre items.toList ns) (hb : ns.length + 1 < scanBound)
    (h : ∀ s₂, SetEnd w s ns s₂ → Q (.ref s.heap.objs.size) s₂) : wpAny (model P w) A (call (.type "set") [.ref l]) Q E s :=
  call_set_tupI ns hh hl hit hb fun h' tk c R hc k => h _ ⟨h', tk, c, rfl, R, hc, k⟩
end
end PZ
set_option maxHeartbeats 2000000
/-! PD 16: sets of ints, by their size, sorted. -/
namespace PD
open PySem PySem.Spec PyProof.Rows L2 PySem.W
def memI (x : Int) : List Int → Bool
  | [] => false
  | y :: ys => match decide (x = y) with
    | true => true
    | false => memI x ys
def ddI : List Int → List Int
  | [] => []
  | x :: xs => match memI x xs with
    | true => ddI xs
    | false => x :: ddI xs
def putI (x : Int) : List Int → List Int
  | [] => [x]
  | y :: ys => match decide (x < y) with
    | true => x :: y :: ys
    | false => y :: putI x ys
def srtI : List Int → List Int
  | [] => []
  | x :: xs => putI x (srtI xs)
theorem memI_iff {x : Int} : ∀ {xs : List Int}, memI x xs = true ↔ x ∈ xs
  | [] => by simp [memI]
  | y :: ys => by
    unfold memI
    cases h : decide (x = y) with
    | true => simp [of_decide_eq_true h]
    | false =>
      have := of_decide_eq_false h
      simp [this, memI_iff (xs := ys)]
theorem ddI_mem {x : Int} : ∀ {xs : List Int}, x ∈ ddI xs ↔ x ∈ xs
  | [] => by simp [ddI]
  | y :: ys => by
    unfold ddI
    cases h : memI y ys with
    | true =>
      have := memI_iff.mp h
      simp only [ddI_mem (xs := ys), List.mem_cons]
      constructor
      · exact .inr
      · rintro (rfl | z)
        · exact this
        · exact z
    | false => simp [ddI_mem (xs := ys)]
theorem ddI_nodup : ∀ xs : List Int, (ddI xs).Nodup
  | [] => List.nodup_nil
  | y :: ys => by
    unfold ddI
    cases h : memI y ys with
    | true => exact ddI_nodup ys
    | false =>
      refine List.nodup_cons.mpr ⟨fun z => ?_, ddI_nodup ys⟩
      rw [memI_iff.mpr (ddI_mem.mp z)] at h
      cases h
theorem putI_mem {x z : Int} : ∀ {xs : List Int}, z ∈ putI x xs ↔ z = x ∨ z ∈ xs
  | [] => by simp [putI]
  | y :: ys => by
    unfold putI
    cases decide (x < y) with
    | true => simp
    | false =>
      simp only [List.mem_cons, putI_mem (xs := ys)]
      constructor
      · rintro (h | h | h)
        · exact .inr (.inl h)
        · exact .inl h
        · exact .inr (.inr h)
      · rintro (h | h | h)
        · exact .inr (.inl h)
        · exact .inl h
        · exact .inr (.inr h)
theorem srtI_mem {z : Int} : ∀ {xs : List Int}, z ∈ srtI xs ↔ z ∈ xs
  | [] => by simp [srtI]
  | y :: ys => by simp [srtI, putI_mem, srtI_mem (xs := ys)]
theorem putI_sorted {x : Int} : ∀ {xs : List Int}, xs.Pairwise (· < ·) → x ∉ xs → (putI x xs).Pairwise (· < ·)
  | [], _, _ => by simp [putI]
  | y :: ys, h, hx => by
    unfold putI
    obtain ⟨h1, h2⟩ := List.pairwise_cons.mp h
    cases hd : decide (x < y) with
    | true =>
      have hlt := of_decide_eq_true hd
      refine List.pairwise_cons.mpr ⟨fun z hz => ?_, h⟩
      rcases List.mem_cons.mp hz with rfl | hz
      · exact hlt
      · exact Int.lt_trans hlt (h1 z hz)
    | false =>
      have hge := of_decide_eq_false hd
      have hne : x ≠ y := fun e => hx (by rw [e]; exact List.mem_cons_self)
      refine List.pairwise_cons.mpr ⟨fun z hz => ?_, putI_sorted h2 fun z => hx (List.mem_cons_of_mem _ z)⟩
      rcases putI_mem.mp hz with rfl | hz
      · omega
      · exact h1 z hz
theorem srtI_sorted : ∀ {xs : List Int}, xs.Nodup → (srtI xs).Pairwise (· < ·)
  | [], _ => List.Pairwise.nil
  | y :: ys, h => by
    obtain ⟨h1, h2⟩ := List.nodup_cons.mp h
    exact putI_sorted (srtI_sorted h2) fun z => h1 (srtI_mem.mp z)
theorem sorted_eq : ∀ {xs ys : List Int}, xs.Pairwise (· < ·) → ys.Pairwise (· < ·) → (∀ z, z ∈ xs ↔ z ∈ ys) → xs = ys
  | [], [], _, _, _ => rfl
  | [], y :: ys, _, _, h => absurd ((h y).mpr List.mem_cons_self) (by simp)
  | x :: xs, [], _, _, h => absurd ((h x).mp List.mem_cons_self) (by simp)
  | x :: xs, y :: ys, h1, h2, h => by
    obtain ⟨a1, a2⟩ := List.pairwise_cons.mp h1
    obtain ⟨b1, b2⟩ := List.pairwise_cons.mp h2
    have e : x = y := by
      rcases List.mem_cons.mp ((h x).mp List.mem_cons_self) with e | e
      · exact e
      · rcases List.mem_cons.mp ((h y).mpr List.mem_cons_self) with e' | e'
        · exact e'.symm
        · have := b1 x e
          have := a1 y e'
          omega
    subst e
    rw [sorted_eq a2 b2 fun z => ?_]
    constructor
    · intro hz
      rcases List.mem_cons.mp ((h z).mp (List.mem_cons_of_mem _ hz)) with e | e
      · have := a1 z hz; omega
      · exact e
    · intro hz
      rcases List.mem_cons.mp ((h z).mpr (List.mem_cons_of_mem _ hz)) with e | e
      · have := b1 z hz; omega
      · exact e
theorem nodup_len : ∀ {xs ys : List Int}, xs.Nodup → ys.Nodup → (∀ z, z ∈ xs ↔ z ∈ ys) → xs.length = ys.length := fun {xs ys} h1 h2 h => by
  have e := sorted_eq (srtI_sorted h1) (srtI_sorted h2) fun z => by rw [srtI_mem, srtI_mem]; exact h z
  have l : ∀ xs : List Int, (srtI xs).length = xs.length := by
    intro xs
    induction xs with
    | nil => rfl
    | cons y ys ih =>
      have p : ∀ (x : Int) (l : List Int), (putI x l).length = l.length + 1 := by
        intro x l
        induction l with
        | nil => rfl
        | cons z zs ih => unfold putI; cases decide (x < z) <;> simp [ih]
      show (putI y (srtI ys)).length = ys.length + 1
      rw [p, ih]
  rw [← l xs, e, l]
def fLenSet : List PyData → Option PyData
  | [x] => match seqOf x with
    | some xs => match intsOf xs with
      | some ns => match Nat.ble ns.length 4000 with
        | true => some (.int (ddI ns).length)
        | false => none
      | none => none
    | none => none
  | _ => none
def fSortSet : List PyData → Option PyData
  | [x] => match seqOf x with
    | some xs => match intsOf xs with
      | some ns => match Nat.ble ns.length 4000 && Nat.ble (ddI ns).length 63 with
        | true => some (.list ((srtI (ddI ns)).map .int))
        | false => none
      | none => none
    | none => none
  | _ => none
theorem ints_vals {K : PySem.W.Frag} {H : Hp} {S : Addr → Prop} : ∀ {vs : List V} {xs : List PyData} {ns : List Int}, DvAll K H S vs xs → intsOf xs = some ns → vs = ns.map V.int
  | _, _, _, .nil, e => by cases e; rfl
  | v :: vs, x :: xs, ns, .cons h t, e => by
    cases x with
    | int i =>
      simp only [intsOf] at e
      cases e2 : intsOf xs with
      | none => rw [e2] at e; cases e
      | some ms =>
        rw [e2] at e
        cases e
        cases h
        rw [ints_vals t e2]
        rfl
    | _ => cases e
section
variable {X : Cx} {Γ : List Kd} {A : Addr → Prop} {B : Hp} {E : XK} {k : Nat} {e a b : Expr} {fa fb fl : Fl} {ma mb : ME} {p p2 q pos : Pos}
/-- the set of an own list's or a tuple's ints is made, then used -/
theorem set_run {pins : List (Addr × Obj)} {σ : L2.St} {H : Hp} {s : Shared} {l : Addr} {vs : List V} {kk : Bool} {ns : List Int} {Q : Value → Shared → Prop} (hc : X.calm = true) (I : Inv X pins σ H s) (hq : PZ.SqK kk X.K H l vs) (e : vs = ns.map V.int) (hl : ns.length ≤ 4000)
    (h : ∀ s₂, PZ.SetEnd X.w s ns s₂ → Q (.ref s.heap.objs.size) s₂) : wpAny (model X.prog X.w) X.A (call (.type "set") [.ref l]) Q X.xe s := by
  subst e
  cases kk with
  | false =>
    obtain ⟨its, r, pl, hz⟩ := I.list hq
    exact PZ.set_listI ns (I.ok.hd hc) pl.isList (by simpa using RZ.intsAre_vals r) (by unfold scanBound; omega) h
  | true =>
    obtain ⟨its, r, pl, hz⟩ := I.tuple hq
    exact PZ.set_tupI ns (I.ok.hd hc) (show s.heap.IsTuple l its.toArray from pl) (by simpa using RZ.intsAre_vals r) (by unfold scanBound; omega) h
theorem setEnd_inv {pins : List (Addr × Obj)} {σ : L2.St} {H : Hp} {s s₂ : Shared} {ns : List Int} (I : Inv X pins σ H s) (h : PZ.SetEnd X.w s ns s₂) : Inv X pins σ H s₂ ∧ ∃ c, SetR X.w s₂.heap s.heap.objs.size (fun j => decide (j ∈ ns)) c ∧ c = (ddI ns).length := by
  obtain ⟨h', tk, c, rfl, R, hc, kp⟩ := h
  refine ⟨I.kept kp, c, R, ?_⟩
  obtain ⟨o, es, ep, t, ho, hex, hd, g, nd, hm, hb, hf, hn, hr, hl⟩ := R
  rw [← hn, ← Array.length_toList, ← List.length_map (f := keyOf)]
  exact nodup_len nd (ddI_nodup ns) fun z => by rw [ddI_mem, ← hm z, decide_eq_true_eq]
theorem j_lenSet (z : Cz X E k) (hm : X.mg "len" = none) (hm2 : X.mg "set" = none) (ha : PE X a (tE X.K Γ A B E fa ma)) (hg : Gl X "len" := by rfl) (hg2 : Gl X "set" := by rfl)
    (na : starEach [a] X.env = (false, eval a X.env) :: starEach [] X.env := by rfl) : PE X (.Call (.Name "len" p) [.Call (.Name "set" p2) [a] [] q] [] pos) (tE X.K Γ A B E .p (mOpL fLenSet (mCons ma mNil))) := by
  refine ⟨fun pins s σ H Q I ⟨O, env, m, h⟩ => ?_⟩
  refine Call_ (ld_blt I hg hm PySem.boot_len ?_)
  refine PyProof.Rows.callWith_builtin1 (PyProof.Rows.args_cons ?_ rfl) rfl rfl
  refine Call_ (ld_blt I hg2 hm2 PyProof.Rows.boot_set ?_)
  unfold mOpL mCons mNil at h
  refine PyProof.Rows.callWith_type1 (PyProof.Rows.args_cons (thn (ha.run pins s σ H (fun v H1 => ∃ x xs ns l kk vs, v = .ref l ∧ fLenSet [x] = some (.int (ddI ns).length) ∧ intsOf xs = some ns ∧ ns.length ≤ 4000 ∧ PZ.SqK kk X.K H1 l vs ∧ vs = ns.map V.int ∧ Q (.int (ddI ns).length) H1) I ⟨O, env, m, ?_⟩) fun v s1 ⟨x, H1, I1, r1, q1⟩ => PyProof.Rows.args_nil ?_) na) na rfl
  · cases e1 : ma env with
    | bad => simp only [e1, Res.bind] at h
    | exc c x => simp only [e1, Res.bind] at h; exact h
    | ok x =>
      simp only [e1, Res.bind, Res.opt] at h
      intro v H1 s1 r1
      have c1 := m.cor.up s1
      unfold fLenSet at h
      simp only at h
      cases e2 : seqOf x with
      | none => simp only [e2] at h
      | some xs =>
        cases e3 : intsOf xs with
        | none => simp only [e2, e3] at h
        | some ns =>
          cases e4 : Nat.ble ns.length 4000 with
          | false => simp only [e2, e3, e4] at h
          | true =>
            simp only [e2, e3, e4] at h
            obtain ⟨l, vs, rfl, hq, hd⟩ := seq_items (r1.dv c1) e2
            have fin : ∀ kk, PZ.SqK kk X.K H1 l vs → _ := fun kk hk => (⟨x, xs, ns, l, kk, vs, rfl, by unfold fLenSet; simp only [e2, e3, e4], e3, Nat.le_of_ble_eq_true e4, hk, ints_vals hd e3, h _ H1 s1 (Dv.int _)⟩ : ∃ x xs ns l' kk vs, V.ref l = .ref l' ∧ fLenSet [x] = some (.int (ddI ns).length) ∧ intsOf xs = some ns ∧ ns.length ≤ 4000 ∧ PZ.SqK kk X.K H1 l' vs ∧ vs = ns.map V.int ∧ Q (.int (ddI ns).length) H1)
            rcases hq with hq | hq
            · exact fin true hq
            · exact fin false hq
  · obtain ⟨y, xs, ns, l, kk, vs, rfl, _, _, hl, hq, ev, q1⟩ := q1
    cases r1
    refine set_run z.calm I1 hq ev hl fun s₂ hE => ?_
    refine PyProof.Rows.args_nil ?_
    obtain ⟨I2, c, R, hc⟩ := setEnd_inv I1 hE
    obtain ⟨o, es, ep, t, ho, hex, hd, g, nd, hm, hb, hf, hn, hr, hl2⟩ := R
    exact call_len_set ho hex hd hf (by unfold scanBound at hb; omega) ⟨.int (ddI ns).length, H1, I2.tok _, ⟨_, by rw [hn, hc]⟩, q1⟩
theorem ints_vals2 : ∀ {us : List Value} {ns : List Int}, PyProof.Rows.IntsAre us ns → Vals (ns.map V.int) us
  | _, _, .nil => .nil
  | _, _, .cons n t h => .cons ⟨t, rfl⟩ (ints_vals2 h)
theorem ints_dvS {K : PySem.W.Frag} {H : Hp} {S : Addr → Prop} : ∀ ns : List Int, DvAll K H S (ns.map V.int) (ns.map PyData.int)
  | [] => .nil
  | n :: ns => .cons (.int n) (ints_dvS ns)
theorem j_sortSet (z : Cz X E k) (hm : X.mg "sorted" = none) (hm2 : X.mg "set" = none) (ha : PE X a (tE X.K Γ A B E fa ma)) (hg : Gl X "sorted" := by rfl) (hg2 : Gl X "set" := by rfl)
    (na : starEach [a] X.env = (false, eval a X.env) :: starEach [] X.env := by rfl) : PE X (.Call (.Name "sorted" p) [.Call (.Name "set" p2) [a] [] q] [] pos) (tE X.K Γ A B E .f (mOpL fSortSet (mCons ma mNil))) := by
  refine ⟨fun pins s σ H Q I ⟨O, env, m, h⟩ => ?_⟩
  refine Call_ (ld_blt I hg hm bt_sorted ?_)
  refine PyProof.Rows.callWith_builtin1 (PyProof.Rows.args_cons ?_ rfl) rfl rfl
  refine Call_ (ld_blt I hg2 hm2 PyProof.Rows.boot_set ?_)
  unfold mOpL mCons mNil at h
  refine PyProof.Rows.callWith_type1 (PyProof.Rows.args_cons (thn (ha.run pins s σ H (fun v H1 => ∃ ns l kk vs, v = .ref l ∧ ns.length ≤ 4000 ∧ (ddI ns).length ≤ 63 ∧ PZ.SqK kk X.K H1 l vs ∧ vs = ns.map V.int ∧
    ∀ t, H1 t = none → Q (.ref t) (upd H1 t (.lst ((srtI (ddI ns)).map V.int)))) I ⟨O, env, m, ?_⟩) fun v s1 ⟨x, H1, I1, r1, q1⟩ => PyProof.Rows.args_nil ?_) na) na rfl
  · cases e1 : ma env with
    | bad => simp only [e1, Res.bind] at h
    | exc c x => simp only [e1, Res.bind] at h; exact h
    | ok x =>
      simp only [e1, Res.bind, Res.opt] at h
      intro v H1 s1 r1
      have c1 := m.cor.up s1
      unfold fSortSet at h
      simp only at h
      cases e2 : seqOf x with
      | none => simp only [e2] at h
      | some xs =>
        cases e3 : intsOf xs with
        | none => simp only [e2, e3] at h
        | some ns =>
          cases e4 : Nat.ble ns.length 4000 && Nat.ble (ddI ns).length 63 with
          | false => simp only [e2, e3, e4] at h
          | true =>
            simp only [e2, e3, e4] at h
            obtain ⟨e5, e6⟩ := Bool.and_eq_true_iff.mp e4
            obtain ⟨l, vs, rfl, hq, hd⟩ := seq_items (r1.dv c1) e2
            have fin : ∀ kk, PZ.SqK kk X.K H1 l vs → ∃ ns l' kk vs, V.ref l = .ref l' ∧ ns.length ≤ 4000 ∧ (ddI ns).length ≤ 63 ∧ PZ.SqK kk X.K H1 l' vs ∧ vs = ns.map V.int ∧
                ∀ t, H1 t = none → Q (.ref t) (upd H1 t (.lst ((srtI (ddI ns)).map V.int))) := fun kk hk =>
              ⟨ns, l, kk, vs, rfl, Nat.le_of_ble_eq_true e5, Nat.le_of_ble_eq_true e6, hk, ints_vals hd e3, fun t ht => h _ _ (s1.trans (laid_same ht)) ⟨t, _, _, rfl, rfl, upd_same, c1.bn ht, c1.an ht, c1.on ht, ints_dvS _⟩⟩
            rcases hq with hq | hq
            · exact fin true hq
            · exact fin false hq
  · obtain ⟨ns, l, kk, vs, rfl, hl, hl2, hq, ev, q1⟩ := q1
    cases r1
    refine set_run z.calm I1 hq ev hl fun s₂ hE => ?_
    refine PyProof.Rows.args_nil ?_
    obtain ⟨I2, c, R, hc⟩ := setEnd_inv I1 hE
    refine L2.sorted_set (P := X.prog) R (I1.ok.hd z.calm) (by omega) fun s' t out cc ns' kp hg' ho hle hD hI hS hm' hn => ?_
    have e : ns' = srtI (ddI ns) := sorted_eq hS (srtI_sorted (ddI_nodup ns)) fun w => by rw [srtI_mem, ddI_mem, hm' w, decide_eq_true_eq]
    have ht : H1 t = none := I2.hok.fresh hle
    have ob : ObjOk X.prog X.w (upd H1 t (.lst ((srtI (ddI ns)).map V.int))) s'.heap t (.lst ((srtI (ddI ns)).map V.int)) := by
      refine ⟨?_, out.toList, cc, ?_, by simpa [seqObj] using hD⟩
      · rw [List.length_map, ← e, hn, sizeLine_eq]
        omega
      · rw [← e]
        exact ints_vals2 hI
    exact ⟨.ref t, _, I2.call' (ch := []) ho (Un.laid kp hle ht) (I2.hok.laid kp hle ob) (by rw [hg']; exact I2.bare) (fun _ w => nomatch w), rfl, q1 t ht⟩
end
end PD
set_option maxHeartbeats 2000000
/-! PD 17: sorted(xs, key=len, reverse=True). -/
namespace PD
open PySem PySem.Spec PyProof.Rows L2 PySem.W
def seqLen : PyData → Option Nat
  | .list xs => some xs.length
  | .tuple xs => some xs.length
  | _ => none
def lenK (x : PyData) : PyData := match seqLen x with
  | some n => .int n
  | none => .int 0
def allSeq : List PyData → Bool
  | [] => true
  | x :: xs => (match seqLen x with
    | some n => Nat.ble n 16777216
    | none => false) && allSeq xs
def fSortLen (rev : Bool) : List PyData → Option PyData
  | [.list xs] => match allSeq xs && okLen xs with
    | true => some (.list (isort (fun a b => leD rev (lenK a) (lenK b)) xs))
    | false => none
  | _ => none
theorem allSeq_mem : ∀ {xs : List PyData} {x : PyData}, allSeq xs = true → x ∈ xs → ∃ n, seqLen x = some n ∧ n ≤ 16777216
  | y :: ys, x, h, hm => by
    unfold allSeq at h
    obtain ⟨h1, h2⟩ := Bool.and_eq_true_iff.mp h
    rcases List.mem_cons.mp hm with e | e
    · subst e
      cases q : seqLen x with
      | none => rw [q] at h1; cases h1
      | some n => rw [q] at h1; exact ⟨n, rfl, Nat.le_of_ble_eq_true h1⟩
    · exact allSeq_mem h2 e
section
variable {X : Cx} {Γ : List Kd} {A : Addr → Prop} {B : Hp} {E : XK} {k : Nat} {e a b : Expr} {fa fb fl : Fl} {ma mb : ME} {p pos : Pos}
/-- a value that has a length -/
def LenR (s : Shared) (v : Value) (n : Nat) : Prop := ∃ (kk : Bool) (l : Addr) (its : Array Value), v = .ref l ∧ PZ.IsQ kk s.heap l its ∧ its.size = n
theorem IsQ.keeps {kk : Bool} {h h' : Heap} {l : Addr} {its : Array Value} (x : PZ.IsQ kk h l its) (k : ∀ b o, h.get? b = some o → h'.get? b = some o) : PZ.IsQ kk h' l its := by
  cases kk
  · exact Heap.IsList.at x fun o e => k _ o e
  · exact Heap.IsTuple.at x fun o e => k _ o e
theorem len_run {P : Program} {w : World} {A : Around} {E : Value → Shared → Prop} {s : Shared} {kk : Bool} {l : Addr} {its : Array Value} {Q : Value → Shared → Prop} (x : PZ.IsQ kk s.heap l its) (hz : its.size ≤ 16777216) (h : ∀ t tk, Q (.int its.size t) { s with toks := tk }) : wpAny (model P w) A (call (.builtin "len") [.ref l]) Q E s := by
  cases kk
  · exact Calls.call_len_list x (by omega) (h _ _)
  · exact len_tuple x (by omega) (h _ _)
theorem j_sortLen (z : Cz X E k) {kp1 kp2 p1 p2 : Pos} {j : Nat} (hm : X.mg "sorted" = none) (hml : X.mg "len" = none) (ha : PE X a (tE X.K Γ A B E fa ma)) (hf : fa.el = .p) (hg : Gl X "sorted" := by rfl) (hgl : Gl X "len" := by rfl)
    (hse : starEach [a] X.env = (false, eval a X.env) :: starEach [] X.env := by rfl)
    (he : backTo pos (starEach [a] X.env) = (false, eval a X.env) :: backTo pos (starEach [] X.env) := by rfl) (hpl : (backTo pos (starEach [a] X.env)).any (·.1) = false := by rfl)
    (hall : (backToKw pos (keywordEach [⟨some "key", .Name "len" p1, kp1⟩, ⟨some "reverse", .Constant (.bool true) j p2, kp2⟩] X.env)).all (·.1.isSome) = true := by rfl)
    (hnone : (backToKw pos (keywordEach [⟨some "key", .Name "len" p1, kp1⟩, ⟨some "reverse", .Constant (.bool true) j p2, kp2⟩] X.env)).any (·.1.isNone) = false := by rfl)
    (hks : (backToKw pos (keywordEach [⟨some "key", .Name "len" p1, kp1⟩, ⟨some "reverse", .Constant (.bool true) j p2, kp2⟩] X.env)).filterMap (·.1) = [("key" : Str), ("reverse" : Str)] := by rfl) :
    PE X (.Call (.Name "sorted" p) [a] [⟨some "key", .Name "len" p1, kp1⟩, ⟨some "reverse", .Constant (.bool true) j p2, kp2⟩] pos) (tE X.K Γ A B E .f (mOpL (fSortLen true) (mCons ma mNil))) := by
  refine ⟨fun pins s σ H Q I ⟨O, env, m, h⟩ => ?_⟩
  refine wpAny_Call_Name_kw (ld_blt I hg hm bt_sorted ?_)
  unfold mOpL mCons mNil at h
  refine PyProof.Rows.callWith_kw (thn ((pa_cons ha pa_nil hse).run pos pins s σ H (fun ws H1 => ∃ v xs vs l, ws = [v] ∧ v = .ref l ∧ SqL X.K H1 l vs ∧ DvAll X.K H1 (sset .p A O) vs xs ∧ allSeq xs = true ∧ okLen xs = true ∧ Cor A B O H1 ∧
    ∀ (t : Addr) (us : List V), H1 t = none → DvAll X.K H1 (sset .p A O) us (isort (fun a b => leD true (lenK a) (lenK b)) xs) → Q (.ref t) (upd H1 t (.lst us))) I ⟨O, env, m, ?_⟩) fun us s1 ⟨ws, H1, I1, r1, q1⟩ => ?_) he hpl hall hnone
  · cases e1 : ma env with
    | bad => simp only [e1, Res.bind] at h
    | exc c x => simp only [e1, Res.bind] at h; exact h
    | ok x =>
      simp only [e1, Res.bind, Res.opt] at h
      intro v H1 s1 r1
      have c1 := m.cor.up s1
      cases x with
      | list xs =>
        simp only [fSortLen] at h
        cases e2 : allSeq xs && okLen xs with
        | false => simp only [e2] at h
        | true =>
          simp only [e2] at h
          obtain ⟨e3, e4⟩ := Bool.and_eq_true_iff.mp e2
          obtain ⟨l, vs, rfl, h1, h2⟩ := (r1.items c1).1 xs rfl
          rw [hf] at h2
          refine ⟨.ref l, xs, vs, l, rfl, rfl, h1.sq, h2, e3, e4, c1, fun t us ht hd => h _ _ (s1.trans (laid_same ht)) ⟨t, us, _, rfl, rfl, upd_same, c1.bn ht, c1.an ht, c1.on ht, ?_⟩⟩
          refine DvAll.mono (S := sset .p A O) (fun b o n w => laid_same ht b o w) (fun b n hn w => ?_) _ hd
          rcases w with w | w
          · exact n w
          · exact hn (by rw [w]; exact ht)
      | _ => simp only [fSortLen] at h
  obtain ⟨v, xs, vs, l, rfl, rfl, hq, hd, hs, ho, c1, q1⟩ := q1
  cases r1 with
  | cons r rr =>
    cases rr
    cases r
    show wpAny _ _ (evalAll [(do let v ← eval (.Name "len" p1) X.env; standAt pos; pure v), (do let v ← eval (.Constant (.bool true) j p2) X.env; standAt pos; pure v)]) _ _ _
    refine wpAny_evalAll_cons (wpAny_bind (ld_blt I1 hgl hml PySem.boot_len (wpAny_bind (wpAny_standAt (wpAny_pure ?_)))))
    refine wpAny_evalAll_cons (wpAny_bind (Constant_bool (wpAny_bind (wpAny_standAt (wpAny_pure (wpAny_evalAll_nil ?_))))))
    rw [hks]
    show wpAny _ _ (call (.builtin "sorted") [.ref l] [(Str.ofString "key", .builtin "len"), (Str.ofString "reverse", .bool true)]) _ _ _
    obtain ⟨its, rv, pl, hz⟩ := I1.list hq
    have hl := hd.length
    have hli := rv.length
    have hzl : (vs.zip xs).length = xs.length := by rw [List.length_zip, hl]; omega
    -- each item has its length
    have key : ∀ {v0 : V} {x0 : PyData} {u0 : Value}, RelV v0 u0 → Dv X.K H1 (sset .p A O) v0 x0 → ∀ n, seqLen x0 = some n → LenR s1 u0 n := fun {v0 x0 u0} ru dv n hn => by
      cases dv with
      | lst h1 h2 =>
        cases hn
        obtain ⟨it2, rv2, pl2, _⟩ := I1.list h1.sq
        obtain rfl : u0 = .ref _ := ru
        exact ⟨false, _, it2.toArray, rfl, pl2.isList, by rw [List.size_toArray, ← rv2.length, h2.length]⟩
      | tup h1 h2 =>
        cases hn
        obtain ⟨it2, rv2, pl2, _⟩ := I1.tuple h1.sq
        obtain rfl : u0 = .ref _ := ru
        exact ⟨true, _, it2.toArray, rfl, pl2, by rw [List.size_toArray, ← rv2.length, h2.length]⟩
      | _ => cases hn
    have each : EachIs (fun (u : Value) (x : V × PyData) => RelV x.1 u ∧ ∃ n, seqLen x.2 = some n ∧ n ≤ 16777216 ∧ LenR s1 u n) its (vs.zip xs) := by
      refine EachIs.of_zip (by rw [hzl, ← hl, hli]) fun q hq => ?_
      obtain ⟨i, hi⟩ := List.mem_iff_getElem?.mp hq
      rw [List.getElem?_zip_eq_some] at hi
      obtain ⟨i1, i2⟩ := hi
      have i3 := i2
      rw [List.getElem?_zip_eq_some] at i3
      obtain ⟨j1, j2⟩ := i3
      obtain ⟨u, hu, ru⟩ := rv.get j1
      rw [i1] at hu
      cases hu
      have hmem : q.2 ∈ vs.zip xs := List.mem_of_getElem? i2
      have dv := dvAll_mem hd q.2 hmem
      obtain ⟨n, hn, hn2⟩ := allSeq_mem hs (List.of_mem_zip (a := q.2.1) (b := q.2.2) hmem).2
      refine ⟨ru, n, hn, hn2, ?_⟩
      exact key ru dv n hn
    have hal : AllAlike ((vs.zip xs).map fun q => lenK q.2) := fun d hd' d2 hd2 => by
      obtain ⟨q, _, rfl⟩ := List.mem_map.mp hd'
      obtain ⟨q2, _, rfl⟩ := List.mem_map.mp hd2
      unfold lenK
      cases seqLen q.2 <;> cases seqLen q2.2 <;> rfl
    have hk : Sortable ((vs.zip xs).map fun q => lenK q.2) := .inr fun d hd' => by
      obtain ⟨q, _, rfl⟩ := List.mem_map.mp hd'
      unfold lenK
      cases seqLen q.2 <;> exact ⟨fun z => PyData.noConfusion z, fun _ z => PyData.noConfusion z⟩
    have hu := z.hu
    refine sorted_key_data (b := true) (R := fun (u : Value) (x : V × PyData) => RelV x.1 u ∧ ∃ n, seqLen x.2 = some n ∧ n ≤ 16777216 ∧ LenR s1 u n) (fun q : V × PyData => lenK q.2) pl.isList each hal hk (by rw [hzl, sizeLine_eq]; exact Nat.le_of_ble_eq_true ho) (fun x _ => ?_)
      (ksk_s2 _ _ _) (fun x => ksk_l2 _ _ _) (fun x => ksk_t5 _ _ _) (fun u x hR hx h tk kp => ?_) fun out c h' tk kp hfr hD hlen hE => ?_
    · have : (lenK x.2).depth = 0 := by
        unfold lenK
        cases seqLen x.2 <;> simp [PyData.depth]
      rw [this]
      omega
    · obtain ⟨_, n, hn, hn2, kk, l2, it2, rfl, hq2, hsz⟩ := hR
      refine len_run (IsQ.keeps hq2 kp) (by omega) fun t tk2 => ?_
      have e : lenK x.2 = .int it2.size := by
        unfold lenK
        rw [hn, hsz]
      rw [e]
      exact ⟨h, tk2, rfl, fun _ _ e => e, .int _ _⟩
    · have es : isort (fun a b => leD true (lenK a) (lenK b)) xs = ((vs.zip xs).mergeSort (dataLe true fun q => lenK q.2)).map (·.2) := by
        rw [← sort_data true (fun q : V × PyData => lenK q.2) (vs.zip xs) (fun a ha b hb => hal _ (List.mem_map_of_mem ha) _ (List.mem_map_of_mem hb)), isort_map (r := fun (a b : V × PyData) => leD true (lenK a.2) (lenK b.2)) (s := fun a b => leD true (lenK a) (lenK b)) (fun q : V × PyData => q.2) (fun _ _ => rfl), zip_snd hl]
      have ht : H1 (s1.heap.objs.size + 1) = none := I1.hok.fresh (Nat.le_succ _)
      have hv : Vals (((vs.zip xs).mergeSort (dataLe true fun q => lenK q.2)).map (·.1)) out := by
        have : ∀ {us : List Value} {qs : List (V × PyData)}, EachIs (fun (u : Value) (x : V × PyData) => RelV x.1 u ∧ ∃ n, seqLen x.2 = some n ∧ n ≤ 16777216 ∧ LenR s1 u n) us qs → Vals (qs.map (·.1)) us := by
          intro us qs hh
          induction hh with
          | nil => exact .nil
          | cons h _ ih => exact .cons h.1 ih
        exact this hE
      refine ⟨.ref (s1.heap.objs.size + 1), _, I1.laid (t' := tk) (a := s1.heap.objs.size + 1) (o := .lst (((vs.zip xs).mergeSort (dataLe true fun q => lenK q.2)).map (·.1))) kp (Nat.le_succ _) ⟨?_, out, c, hv, by simpa [seqObj] using hD⟩, rfl, q1 _ _ ht ?_⟩
      · rw [hv.length, hlen, hzl, sizeLine_eq]
        exact Nat.le_of_ble_eq_true ho
      · rw [es]
        exact dvAll_of fun w hw => dvAll_mem hd w (List.mem_mergeSort.mp hw)
end
end PD
set_option maxHeartbeats 3200000
/-! list(zip(xs, ys)): each tuple that is given out stays. -/
namespace PZ
open PySem PySem.Spec PyProof.Rows L2
theorem zip_no_len : typeLookup (.type "zip") "__len__" = pure none := by rw [typeLookup_type, builtinLookup_eq_fast]; kernel_rfl
theorem zip_no_hint : typeLookup (.type "zip") "__length_hint__" = pure none := by rw [typeLookup_type, builtinLookup_eq_fast]; kernel_rfl
section
variable {prog : Program} {w : World} {A : Around} {E : Value → Shared → Prop} {s : Shared} {k k1 k2 : Bool} {it l z TI TO T i1 i2 a b : Addr} {items xs ys : Array Value} {i j : Nat} {x y : Value} {f : Bool} {oT : Obj}
theorem IsQ.at {h h' : Heap} (q : IsQ k h l items) (e : ∀ o, h.get? l = some o → h'.get? l = some o) : IsQ k h' l items := by
  cases k
  · exact Heap.IsList.at q e
  · exact Heap.IsTuple.at q e
theorem next_item {Q : Value → Shared → Prop} (h1 : IsIt k s.heap it l i) (h2 : IsQ k s.heap l items) (hx : items[i]? = some x) (h : ∀ h', IsIt k h' it l (i + 1) → Heap.SameBut it s.heap h' → Q x { s with heap := h' }) :
    wpAny (model prog w) A (Builtin.SmallTypes.nextOf (.ref it)) Q E s := by
  cases k
  · exact wpAny_nextOf_list_item h1 h2 hx h
  · exact wpAny_nextOf_tuple_item h1 h2 hx h
theorem next_end {Q : Value → Shared → Prop} (hh : A.handled = none) (h1 : IsIt k s.heap it l i) (h2 : IsQ k s.heap l items) (hx : items[i]? = none) (h : ∀ h' e, Heap.ExtBut it s.heap h' → (∃ o, h'.get? e = some o ∧ o.cls = .type "StopIteration") → E (.ref e) { s with heap := h' }) :
    wpAny (model prog w) A (Builtin.SmallTypes.nextOf (.ref it)) Q E s := by
  cases k
  · exact wpAny_nextOf_list_end hh h1 h2 hx h
  · exact wpAny_nextOf_tuple_end hh h1 h2 hx h
/-- z's cells lie apart, off the two sources -/
structure Ap (z TI TO i1 i2 a b : Addr) : Prop where
  sep : ZipSep2 z TI TO i1 i2 [i1, a] [i2, b]
  a1 : a ≠ i1
  b2 : b ≠ i2
theorem Ap.az (D : Ap z TI TO i1 i2 a b) : a ≠ z := fun e => D.sep.zf1 (by rw [← e]; simp)
theorem Ap.bz (D : Ap z TI TO i1 i2 a b) : b ≠ z := fun e => D.sep.zf2 (by rw [← e]; simp)
theorem Ap.b1 (D : Ap z TI TO i1 i2 a b) : b ≠ i1 := fun e => D.sep.sep1_2 (by rw [← e]; simp)
theorem Ap.a2 (D : Ap z TI TO i1 i2 a b) : a ≠ i2 := fun e => D.sep.sep2_1 (by rw [← e]; simp)
theorem Ap.i12 (D : Ap z TI TO i1 i2 a b) : i1 ≠ i2 := fun e => D.sep.sep1_2 (by rw [e]; simp)
theorem Ap.z1 (D : Ap z TI TO i1 i2 a b) : z ≠ i1 := D.sep.zi1
theorem Ap.z2 (D : Ap z TI TO i1 i2 a b) : z ≠ i2 := D.sep.zi2
/-- the two sources, as they are drawn from -/
structure Two (k1 k2 : Bool) (h : Heap) (TI i1 i2 a b : Addr) (i : Nat) (xs ys : Array Value) : Prop where
  TI : IsTupOf2 h TI (.ref i1) (.ref i2)
  it1 : IsIt k1 h i1 a i
  it2 : IsIt k2 h i2 b i
  q1 : IsQ k1 h a xs
  q2 : IsQ k2 h b ys
theorem held_item {Q : Value → Shared → Prop} (D : Ap z TI TO i1 i2 a b) (hz : IsZipHeld s.heap z TI TO T f) (hT : s.heap.get? T = some oT) (W : Two k1 k2 s.heap TI i1 i2 a b i xs ys) (hx : xs[i]? = some x) (hy : ys[i]? = some y)
    (hQ : ∀ h', IsZipHeld h' z TI TO T true → IsIt k1 h' i1 a (i + 1) → IsIt k2 h' i2 b (i + 1) → IsTupOf2 h' s.heap.objs.size x y → (∀ c o, c ≠ z → c ≠ i1 → c ≠ i2 → s.heap.get? c = some o → h'.get? c = some o) → Q (.ref s.heap.objs.size) { s with heap := h' }) :
    wpAny (model prog w) A (Builtin.«zip.__next__» ⟨[.ref z], []⟩) (fun fin s' => ∃ v, fin = .done (.ret v) ∧ Q v s') E s := by
  show wpAny _ _ (field (.ref z) 2 >>= _) _ _ _
  refine wpAny_bind (wpAny_field hz rfl (x := .bool false) rfl ?_)
  show wpAny _ _ (field (.ref z) 3 >>= _) _ _ _
  refine wpAny_bind (wpAny_field hz rfl (x := .ref TI) rfl (wpAny_bind (wpAny_seqItems W.TI rfl ?_)))
  show wpAny _ _ (Builtin.SmallTypes.ownedTupleIsFree (.ref z) >>= _) _ _ _
  refine wpAny_bind (wpAny_tupleHeld_zip hz hT fun g1 z1 s1 => ?_)
  simp only [Bool.false_eq_true, if_false]
  refine wpAny_bind ?_
  rw [← Array.forIn_toList]
  simp only [List.forIn_cons, List.forIn_nil]
  refine wpAny_bind (wpAny_bind (wpAny_holding ?_))
  show wpAny _ _ (Builtin.SmallTypes.nextOf (.ref i1) >>= _) _ _ _
  refine wpAny_bind (next_item (s := { s with heap := g1 }) (W.it1.at fun o e => s1.extBut _ _ D.z1.symm e) (W.q1.at fun o e => s1.extBut _ _ D.az e) hx fun g2 t1 s2 => wpAny_pure (wpAny_pure ?_))
  refine wpAny_bind (wpAny_bind (wpAny_holding ?_))
  show wpAny _ _ (Builtin.SmallTypes.nextOf (.ref i2) >>= _) _ _ _
  refine wpAny_bind (next_item (s := { s with heap := g2 }) (W.it2.at fun o e => s2.extBut _ _ D.i12.symm (s1.extBut _ _ D.z2.symm e)) (W.q2.at fun o e => s2.extBut _ _ D.b1 (s1.extBut _ _ D.bz e)) hy fun g3 t2 s3 => wpAny_pure (wpAny_pure (wpAny_pure ?_)))
  show wpAny _ _ (newTuple [x, y] >>= _) _ _ _
  refine wpAny_bind (wpAny_newTuple (wpAny_pure ⟨_, rfl, ?_⟩))
  have hsz : g3.objs.size = s.heap.objs.size := by rw [s3.1, s2.1, s1.1]
  have z3 : IsZipHeld g3 z TI TO T true := s3.extBut _ _ D.z2 (s2.extBut _ _ D.z1 z1)
  show Q (.ref g3.objs.size) _
  have hp : IsTupOf2 (g3.push { cls := .type "tuple", data := .seq #[x, y] }) g3.objs.size x y := Heap.get?_push_size _ rfl
  rw [hsz] at hp ⊢
  exact hQ _ (Heap.get?_push_of_some _ z3) ((t1.at fun o e => s3.extBut _ _ D.i12 e).at fun o e => Heap.get?_push_of_some _ e) (t2.at fun o e => Heap.get?_push_of_some _ e) hp fun c o c1 c2 c3 e =>
    Heap.get?_push_of_some _ (s3.extBut _ _ c3 (s2.extBut _ _ c2 (s1.extBut _ _ c1 e)))
theorem held_end {Q : Fin → Shared → Prop} (hh : A.handled = none) (D : Ap z TI TO i1 i2 a b) (hz : IsZipHeld s.heap z TI TO T f) (hT : s.heap.get? T = some oT) (W : Two k1 k2 s.heap TI i1 i2 a b i xs ys) (hend : xs[i]? = none ∨ ys[i]? = none)
    (hE : ∀ h' e, (∀ c o, c ≠ z → c ≠ i1 → c ≠ i2 → s.heap.get? c = some o → h'.get? c = some o) → (∃ o, h'.get? e = some o ∧ o.cls = .type "StopIteration") → E (.ref e) { s with heap := h' }) :
    wpAny (model prog w) A (Builtin.«zip.__next__» ⟨[.ref z], []⟩) Q E s := by
  show wpAny _ _ (field (.ref z) 2 >>= _) _ _ _
  refine wpAny_bind (wpAny_field hz rfl (x := .bool false) rfl ?_)
  show wpAny _ _ (field (.ref z) 3 >>= _) _ _ _
  refine wpAny_bind (wpAny_field hz rfl (x := .ref TI) rfl (wpAny_bind (wpAny_seqItems W.TI rfl ?_)))
  show wpAny _ _ (Builtin.SmallTypes.ownedTupleIsFree (.ref z) >>= _) _ _ _
  refine wpAny_bind (wpAny_tupleHeld_zip hz hT fun g1 z1 s1 => ?_)
  simp only [Bool.false_eq_true, if_false]
  refine wpAny_bind ?_
  rw [← Array.forIn_toList]
  simp only [List.forIn_cons, List.forIn_nil]
  refine wpAny_bind (wpAny_bind (wpAny_holding ?_))
  show wpAny _ _ (Builtin.SmallTypes.nextOf (.ref i1) >>= _) _ _ _
  have w1 := W.it1.at fun o e => s1.extBut _ _ D.z1.symm e
  have w2 := W.q1.at fun o e => s1.extBut _ _ D.az e
  cases hx : xs[i]? with
  | none => exact wpAny_bind (next_end (s := { s with heap := g1 }) hh w1 w2 hx fun g2 e s2 he => hE g2 e (fun c o c1 c2 _ q => s2 _ _ c2 (s1.extBut _ _ c1 q)) he)
  | some x =>
    have hy : ys[i]? = none := hend.resolve_left (by rw [hx]; simp)
    refine wpAny_bind (next_item (s := { s with heap := g1 }) w1 w2 hx fun g2 t1 s2 => wpAny_pure (wpAny_pure ?_))
    refine wpAny_bind (wpAny_bind (wpAny_holding ?_))
    show wpAny _ _ (Builtin.SmallTypes.nextOf (.ref i2) >>= _) _ _ _
    exact wpAny_bind (next_end (s := { s with heap := g2 }) hh (W.it2.at fun o e => s2.extBut _ _ D.i12.symm (s1.extBut _ _ D.z2.symm e)) (W.q2.at fun o e => s2.extBut _ _ D.b1 (s1.extBut _ _ D.bz e)) hy
      fun g3 e s3 he => hE g3 e (fun c o c1 c2 c3 q => s3 _ _ c3 (s2.extBut _ _ c2 (s1.extBut _ _ c1 q))) he)
theorem pyNext_item {Q : Option Value → Shared → Prop} (D : Ap z TI TO i1 i2 a b) (hz : IsZipHeld s.heap z TI TO T f) (hT : s.heap.get? T = some oT) (W : Two k1 k2 s.heap TI i1 i2 a b i xs ys) (hx : xs[i]? = some x) (hy : ys[i]? = some y)
    (hQ : ∀ h', IsZipHeld h' z TI TO T true → IsIt k1 h' i1 a (i + 1) → IsIt k2 h' i2 b (i + 1) → IsTupOf2 h' s.heap.objs.size x y → (∀ c o, c ≠ z → c ≠ i1 → c ≠ i2 → s.heap.get? c = some o → h'.get? c = some o) → Q (some (.ref s.heap.objs.size)) { s with heap := h' }) :
    wpAny (model prog w) A (pyNext (.ref z)) Q E s := by
  have hTy : s.TypeIs (.ref z) "zip" := ⟨_, hz, rfl⟩
  unfold pyNext
  exact wpAny_bind (wpAny_attempt (wpAny_callSpecial?_slot (name := Str.ofString "__next__") hTy F.slot_zip_next (wpAny_call_entry F.slot_zip_next hTy F.entry_zip_next
    (held_item D hz hT W hx hy fun h' a1 a2 a3 a4 a5 => wpAny_pure (hQ h' a1 a2 a3 a4 a5)) (F.args_zip_next_1 _))))
theorem pyNext_end {Q : Option Value → Shared → Prop} (hh : A.handled = none) (D : Ap z TI TO i1 i2 a b) (hz : IsZipHeld s.heap z TI TO T f) (hT : s.heap.get? T = some oT) (W : Two k1 k2 s.heap TI i1 i2 a b i xs ys) (hend : xs[i]? = none ∨ ys[i]? = none)
    (hQ : ∀ h', (∀ c o, c ≠ z → c ≠ i1 → c ≠ i2 → s.heap.get? c = some o → h'.get? c = some o) → Q none { s with heap := h' }) : wpAny (model prog w) A (pyNext (.ref z)) Q E s := by
  have hTy : s.TypeIs (.ref z) "zip" := ⟨_, hz, rfl⟩
  unfold pyNext
  refine wpAny_bind (wpAny_attempt (wpAny_callSpecial?_slot (name := Str.ofString "__next__") hTy F.slot_zip_next (wpAny_call_entry F.slot_zip_next hTy F.entry_zip_next
    (held_end (by first | exact hh | simp [hh]) D hz hT W hend fun h' e hk he => ?_) (F.args_zip_next_1 _))))
  obtain ⟨o, ho, hc⟩ := he
  exact wpAny_bind (wpAny_isInstance (T := "StopIteration") (b := true) ⟨o, ho, hc⟩ isSubtype_stop (wpAny_pure (hQ h' hk)))
/-- the zip before its first turn, or with a tuple given out that stays -/
def ZS (N : Nat) (h : Heap) (z TI TO : Addr) : Prop := (IsZip h z TI TO .none ∧ ∃ p q, IsTupOf2 h TO p q) ∨ ∃ T f oT, IsZipHeld h z TI TO T f ∧ h.get? T = some oT ∧ N ≤ T
/-- what has been collected: pairs -/
def Got (h : Heap) (xs ys : Array Value) (acc : Array Value) (n : Nat) : Prop := acc.size = n ∧ ∀ j, j < n → ∃ T x y, acc[j]? = some (Value.ref T) ∧ xs[j]? = some x ∧ ys[j]? = some y ∧ IsTupOf2 h T x y
theorem Got.push {h h' : Heap} {acc : Array Value} {n : Nat} {T : Addr} (g : Got h xs ys acc n) (k : ∀ c o, h.get? c = some o → (∃ x y, o = { cls := .type "tuple", data := .seq #[x, y] } ∧ ∃ j, j < n ∧ acc[j]? = some (Value.ref c)) → h'.get? c = some o) (hx : xs[n]? = some x) (hy : ys[n]? = some y) (hT : IsTupOf2 h' T x y) : Got h' xs ys (acc.push (.ref T)) (n + 1) := by
  refine ⟨by rw [Array.size_push, g.1], fun j hj => ?_⟩
  by_cases e : j = n
  · subst e
    exact ⟨T, x, y, by rw [← g.1]; exact Array.getElem?_push_size, hx, hy, hT⟩
  · obtain ⟨T', x', y', e1, e2, e3, e4⟩ := g.2 j (by omega)
    refine ⟨T', x', y', ?_, e2, e3, k _ _ e4 ⟨x', y', rfl, j, by omega, e1⟩⟩
    rw [Array.getElem?_push_lt (by rw [g.1]; omega)]
    rw [Array.getElem?_eq_getElem (by rw [g.1]; omega)] at e1
    exact e1
/-- the loop of list.extend over the zip -/
theorem ext_loop {R : Result → Shared → Prop} (hh : A.handled = none) (D : Ap z TI TO i1 i2 a b) {S N : Nat} (res : Value) (hSN : ∀ c ∈ [z, TI, TO, i1, i2, a, b], S ≠ c ∧ c < N) (hS : S < N) (hl : min xs.size ys.size ≤ sizeLine) : ∀ (m i : Nat) (s : Shared) (acc : Array Value) (c : Nat), min xs.size ys.size - i = m → i ≤ min xs.size ys.size →
    ZS N s.heap z TI TO → Two k1 k2 s.heap TI i1 i2 a b i xs ys → s.heap.get? S = some { cls := .type "list", dict := none, data := .seq acc c, slots := #[] } → Got s.heap xs ys acc i → N ≤ s.heap.objs.size → (∀ (j : Nat) (T : Addr), acc[j]? = some (Value.ref T) → N ≤ T) →
    (∀ h' acc' c', (∀ d o, d < N → d ∉ [S, z, TO, i1, i2] → s.heap.get? d = some o → h'.get? d = some o) → h'.get? S = some { cls := .type "list", dict := none, data := .seq acc' c', slots := #[] } → Got h' xs ys acc' (min xs.size ys.size) → (∀ (j : Nat) (T : Addr), acc'[j]? = some (Value.ref T) → N ≤ T) → ∀ tk, R (.ok (.ret res)) { s with heap := h', toks := tk }) →
    codeAny (model prog w) A (.builtin "list.extend.loop" ⟨[.ref S, .ref z, res], []⟩) R s := by
  have nz : S ≠ z := (hSN z (by simp)).1
  have nTI : S ≠ TI := (hSN TI (by simp)).1
  have nTO : S ≠ TO := (hSN TO (by simp)).1
  have n1 : S ≠ i1 := (hSN i1 (by simp)).1
  have n2 : S ≠ i2 := (hSN i2 (by simp)).1
  have na : S ≠ a := (hSN a (by simp)).1
  have nb : S ≠ b := (hSN b (by simp)).1
  intro m
  induction m with
  | zero =>
    intro i s acc c hm hi hz W hS' hG hN hT hR
    have hi' : i = min xs.size ys.size := by omega
    refine codeAny_builtin F.entry_extend_loop ?_
    rw [Around.under_plainId F.plain_extend_loop _]
    show wpAny _ A.in1 (pyNext (.ref z) >>= _) _ _ s
    have hend : xs[i]? = none ∨ ys[i]? = none := by
      rcases Nat.le_total xs.size ys.size with h | h
      · exact .inl (Array.getElem?_eq_none (by omega))
      · exact .inr (Array.getElem?_eq_none (by omega))
    have fin : ∀ h' tk, (∀ d o, d ≠ z → d ≠ TO → d ≠ i1 → d ≠ i2 → s.heap.get? d = some o → h'.get? d = some o) → R (.ok (.ret res)) { s with heap := h', toks := tk } := fun h' tk k => by
      refine hR h' acc c (fun d o hd hn e => ?_) (k _ _ nz nTO n1 n2 hS') ⟨hi' ▸ hG.1, fun j hj => ?_⟩ hT tk
      · simp only [List.mem_cons, List.not_mem_nil, or_false, not_or] at hn
        exact k d o hn.2.1 hn.2.2.1 hn.2.2.2.1 hn.2.2.2.2 e
      · obtain ⟨T', x', y', e1, e2, e3, e4⟩ := hG.2 j (hi' ▸ hj)
        have l := hT j T' e1
        have ne : ∀ c, c < N → T' ≠ c := fun c h e => absurd (e ▸ l) (Nat.not_le.mpr h)
        exact ⟨T', x', y', e1, e2, e3, k _ _ (ne _ (hSN z (by simp)).2) (ne _ (hSN TO (by simp)).2) (ne _ (hSN i1 (by simp)).2) (ne _ (hSN i2 (by simp)).2) e4⟩
    rcases hz with ⟨hz, p, q, hTO⟩ | ⟨T, f, oT, hz, hTT, hTN⟩
    · exact wpAny_bind (wpAny_pyNext_zipD2_end D.sep (draws (A := A.in1.in1) hh k1 i1 a D.a1 xs) (draws (A := A.in1.in1) hh k2 i2 b D.b2 ys) hz W.TI hTO ⟨W.it1, W.q1⟩ ⟨W.it2, W.q2⟩ (by omega) (by omega) (by omega) fun h' tk k => wpAny_pure (fin h' tk k))
    · exact wpAny_bind (pyNext_end (A := A.in1) hh D hz hTT W hend fun h' k => wpAny_pure (fin h' s.toks fun d o c1 c2 c3 c4 e => k d o c1 c3 c4 e))
  | succ m ih =>
    intro i s acc c hm hi hz W hS' hG hN hT hR
    have hlt : i < min xs.size ys.size := by omega
    have hx : xs[i]? = some xs[i] := Array.getElem?_eq_getElem (by omega)
    have hy : ys[i]? = some ys[i] := Array.getElem?_eq_getElem (by omega)
    refine codeAny_builtin F.entry_extend_loop ?_
    rw [Around.under_plainId F.plain_extend_loop _]
    show wpAny _ A.in1 (pyNext (.ref z) >>= _) _ _ s
    -- a turn's end
    have turn : ∀ h' tk, ZS N h' z TI TO → IsIt k1 h' i1 a (i + 1) → IsIt k2 h' i2 b (i + 1) → IsTupOf2 h' s.heap.objs.size xs[i] ys[i] → s.heap.objs.size < h'.objs.size →
        (∀ d o, d ≠ z → d ≠ TO → d ≠ i1 → d ≠ i2 → s.heap.get? d = some o → h'.get? d = some o) → wpAny (model prog w) A.in1 (updateSeq S (·.push (Value.ref s.heap.objs.size)) >>= fun _ => again (.builtin "list.extend.loop" ⟨[.ref S, .ref z, res], []⟩))
        (fun fin s' => match fin with | .done f => R (.ok f) s' | .again c' => c'.quiet = true ∧ codeAny (model prog w) A c' R s') (fun e s' => R (.error e) s') { s with heap := h', toks := tk } := fun h' tk hzz t1 t2 hp hlt' k => by
      have hS2 := k _ _ nz nTO n1 n2 hS'
      have nsz : S ≠ s.heap.objs.size := Nat.ne_of_lt (Nat.lt_of_lt_of_le hS hN)
      have oth : ∀ d o, d ≠ S → h'.get? d = some o → (h'.update S (Obj.mapSeq (·.push (Value.ref s.heap.objs.size)))).get? d = some o := fun d o h e => (Heap.get?_update_other _ _ (Ne.symm h)).trans e
      have ne : ∀ {T : Addr} c, c < N → N ≤ T → T ≠ c := fun c h l e => absurd (e ▸ l) (Nat.not_le.mpr h)
      refine wpAny_bind (wpAny_updateSeq hS2 rfl (wpAny_pure ⟨plainId_quiet F.plain_extend_loop _, ih (i + 1) _ (acc.push (Value.ref s.heap.objs.size)) _ (by omega) hlt ?_ ⟨?_, ?_, ?_, ?_, ?_⟩ (Heap.get?_update_self _ hS2 rfl) ?_ ?_ ?_ ?_⟩) ?_ ?_)
      · rcases hzz with ⟨h1, p, q, h2⟩ | ⟨T, f, oT, h1, h2, h3⟩
        · exact .inl ⟨oth _ _ nz.symm h1, p, q, oth _ _ nTO.symm h2⟩
        · exact .inr ⟨T, f, oT, oth _ _ nz.symm h1, oth _ _ (ne _ hS h3) h2, h3⟩
      · exact oth _ _ nTI.symm (k _ _ D.sep.TIz D.sep.TITO D.sep.TIi1 D.sep.TIi2 W.TI)
      · exact t1.at fun o e => oth _ _ n1.symm e
      · exact t2.at fun o e => oth _ _ n2.symm e
      · exact W.q1.at fun o e => oth _ _ na.symm (k _ _ D.az (fun e => D.sep.Tf1 (by rw [← e]; simp)) D.a1 D.a2 e)
      · exact W.q2.at fun o e => oth _ _ nb.symm (k _ _ D.bz (fun e => D.sep.Tf2 (by rw [← e]; simp)) D.b1 D.b2 e)
      · refine hG.push (fun c o e ⟨x', y', eo, j', hj', ej⟩ => ?_) hx hy (oth _ _ nsz.symm hp)
        have l := hT j' c ej
        exact oth _ _ (ne _ hS l) (k _ _ (ne _ (hSN z (by simp)).2 l) (ne _ (hSN TO (by simp)).2 l) (ne _ (hSN i1 (by simp)).2 l) (ne _ (hSN i2 (by simp)).2 l) e)
      · show N ≤ (h'.update S _).objs.size
        rw [Heap.size_update]
        omega
      · intro j' T' e
        by_cases hj : j' < acc.size
        · rw [Array.getElem?_push_lt hj] at e
          exact hT j' T' (by rw [Array.getElem?_eq_getElem hj]; exact e)
        · by_cases hj2 : j' = acc.size
          · rw [hj2, Array.getElem?_push_size] at e
            cases e
            exact hN
          · rw [Array.getElem?_eq_none (by rw [Array.size_push]; omega)] at e
            cases e
      · refine fun h'' acc' c' k2 e2 g2 l2 tk2 => hR h'' acc' c' (fun d o hd hn e => ?_) e2 g2 l2 tk2
        have hn' := hn
        simp only [List.mem_cons, List.not_mem_nil, or_false, not_or] at hn'
        exact k2 d o hd hn (oth _ _ hn'.1 (k d o hn'.2.1 hn'.2.2.1 hn'.2.2.2.1 hn'.2.2.2.2 e))
      · rw [hG.1]; omega
      · show (acc.push _).size ≤ sizeLine + 1
        rw [Array.size_push, hG.1]
        omega
    rcases hz with ⟨hz, p, q, hTO⟩ | ⟨T, f, oT, hz, hTT, hTN⟩
    · refine wpAny_bind (wpAny_pyNext_zipD2_item D.sep (draws (A := A.in1.in1) hh k1 i1 a D.a1 xs) (draws (A := A.in1.in1) hh k2 i2 b D.b2 ys) hz W.TI hTO ⟨W.it1, W.q1⟩ ⟨W.it2, W.q2⟩ (by omega) (by omega) fun x1 x2 h' tk e1 e2 z' TO' d1 d2 hp hsz k => ?_)
      rw [hx] at e1
      rw [hy] at e2
      cases e1
      cases e2
      exact turn h' tk (.inr ⟨_, false, _, z', hp, hN⟩) d1.1 d2.1 hp (by omega) k
    · refine wpAny_bind (pyNext_item (A := A.in1) D hz hTT W hx hy fun h' z' t1 t2 hp k => ?_)
      refine turn h' s.toks (.inr ⟨T, true, oT, z', k _ _ ?_ ?_ ?_ hTT, hTN⟩) t1 t2 hp (Heap.lt_size hp) fun d o c1 c2 c3 c4 e => k d o c1 c3 c4 e
      · exact fun e => absurd (e ▸ hTN) (Nat.not_le.mpr (hSN z (by simp)).2)
      · exact fun e => absurd (e ▸ hTN) (Nat.not_le.mpr (hSN i1 (by simp)).2)
      · exact fun e => absurd (e ▸ hTN) (Nat.not_le.mpr (hSN i2 (by simp)).2)
/-- list(z), z the zip as it was made -/
theorem list_zip {Q : Value → Shared → Prop} (hh : A.handled = none) (D : Ap z TI TO i1 i2 a b) (hz : IsZip s.heap z TI TO .none) (hTO : ∃ p q, IsTupOf2 s.heap TO p q) (W : Two k1 k2 s.heap TI i1 i2 a b 0 xs ys) (hlt : ∀ c ∈ [z, TI, TO, i1, i2, a, b], c < s.heap.objs.size) (hl : min xs.size ys.size ≤ sizeLine)
    (hQ : ∀ h' acc' c' tk, (∀ d o, d < s.heap.objs.size → d ∉ [z, TO, i1, i2] → s.heap.get? d = some o → h'.get? d = some o) → h'.get? s.heap.objs.size = some { cls := .type "list", dict := none, data := .seq acc' c', slots := #[] } → Got h' xs ys acc' (min xs.size ys.size) →
      (∀ (j : Nat) (T : Addr), acc'[j]? = some (Value.ref T) → s.heap.objs.size < T) → Q (.ref s.heap.objs.size) { s with heap := h', toks := tk }) :
    wpAny (model prog w) A (call (.type "list") [.ref z]) Q E s := by
  obtain ⟨hp, g, d, tk, os⟩ := s
  have hnS : ∀ c ∈ [z, TI, TO, i1, i2, a, b], c ≠ hp.objs.size := fun c h => Nat.ne_of_lt (hlt c h)
  refine callType_codes (Q₁ := fun obj s₁ => obj = .ref hp.objs.size ∧ s₁ = ⟨hp.push { cls := .type "list", data := .seq #[] }, g, d, tk, os⟩) F.called_list (F.typeCall_list_1 _) F.entry_list_init (code_list_new _ ⟨rfl, rfl⟩) fun obj s₁ h₁ => ?_
  obtain ⟨rfl, rfl⟩ := h₁
  have up : ∀ b o, hp.get? b = some o → (hp.push { cls := .type "list", data := .seq #[] }).get? b = some o := fun b o e => Heap.get?_push_of_some _ e
  have hS : (hp.push { cls := .type "list", data := .seq #[] }).get? hp.objs.size = some { cls := .type "list", data := .seq #[] } := Heap.get?_push_size _ rfl
  refine ⟨⟨_, hS, rfl⟩, F.args_list_init_2 _ _, ?_⟩
  show wpAny _ A.in1.in1 (do let old ← Builtin.List.listItems (.ref hp.objs.size); Builtin.List.listUpdate (.ref hp.objs.size) (fun _ => #[]); letGo old.toList.reverse; Builtin.List.listExtendWith (.ref hp.objs.size) (.ref z) .none) _ _ _
  refine wpAny_bind ?_
  unfold Builtin.List.listItems
  refine wpAny_bind (wpAny_seqItems hS rfl (wpAny_pure ?_))
  show wpAny _ A.in1.in1 (updateSeq hp.objs.size (fun _ => #[]) >>= fun _ => letGo (#[] : Array Value).toList.reverse >>= fun _ => Builtin.List.listExtendWith (.ref hp.objs.size) (.ref z) .none) _ _ _
  refine wpAny_bind (wpAny_updateSeq hS rfl ?_)
  have hS₂ := Heap.get?_update_self (Obj.mapSeq (fun _ => (#[] : Array Value))) hS rfl
  refine wpAny_bind (wpAny_letGo ?_)
  generalize hg2 : (hp.push { cls := .type "list", data := .seq #[] }).update hp.objs.size (Obj.mapSeq (fun _ => (#[] : Array Value))) = g2 at hS₂ ⊢
  have kk2 : ∀ b o, hp.get? b = some o → g2.get? b = some o := fun b o e => by
    rw [← hg2, Heap.get?_update_other _ _ (Nat.ne_of_gt (Heap.lt_size e))]
    exact up b o e
  have hz2 : g2.objs.size = hp.objs.size + 1 := by rw [← hg2, Heap.size_update, Heap.size_push]
  have hT : Shared.TypeIs ⟨g2, g, d, tk, os⟩ (.ref z) "zip" := ⟨_, kk2 _ _ hz, rfl⟩
  have e1 : Builtin.List.listSameRef (.ref hp.objs.size) (.ref z) = false := by simp [Builtin.List.listSameRef, (hnS z (by simp)).symm]
  have e2 : (Value.type "zip" == Value.type "list") = false := by decide
  have e3 : (Value.type "zip" == Value.type "tuple") = false := by decide
  unfold Builtin.List.listExtendWith
  refine wpAny_bind (wpAny_typeOf hT ?_)
  simp only [e1, e2, e3, Bool.or_false, Bool.false_eq_true, if_false]
  refine wpAny_bind (wpAny_pyIter_zip (kk2 _ _ hz) ?_)
  refine wpAny_bind (wpAny_holding ?_)
  unfold Builtin.List.listLengthHint
  refine wpAny_bind (wpAny_specialOf hT zip_no_len ?_)
  show wpAny _ A.in1.in1 (specialOf (Value.ref z) (Str.ofString "__length_hint__") >>= _) _ _ _
  refine wpAny_bind (wpAny_specialOf hT zip_no_hint ?_)
  refine wpAny_pure ?_
  show wpAny _ A.in1.in1 (rule "list.extend.makes-room" >>= fun _ => Builtin.List.listTouch (.ref hp.objs.size) >>= fun _ => again (.builtin "list.extend.loop" ⟨[.ref hp.objs.size, .ref z, .none], []⟩)) _ _ _
  refine wpAny_bind (wpAny_rule (wpAny_bind ?_))
  show wpAny _ A.in1.in1 (updateSeq hp.objs.size (·.push .none) >>= fun _ => updateSeq hp.objs.size (·.pop)) _ _ _
  refine wpAny_bind (wpAny_updateSeq hS₂ rfl ?_)
  have hS₃ := Heap.get?_update_self (Obj.mapSeq (·.push Value.none)) hS₂ rfl
  refine wpAny_updateSeq (hz := by seq_fits) hS₃ rfl ?_
  have hS₄ := Heap.get?_update_self (Obj.mapSeq (·.pop)) hS₃ rfl
  generalize hg4 : (g2.update hp.objs.size (Obj.mapSeq (·.push Value.none))).update hp.objs.size (Obj.mapSeq (·.pop)) = g4 at hS₄ ⊢
  have k4 : ∀ b o, hp.get? b = some o → g4.get? b = some o := fun b o e => by
    have n := Nat.ne_of_gt (Heap.lt_size e)
    rw [← hg4, Heap.get?_update_other _ _ n, Heap.get?_update_other _ _ n]
    exact kk2 b o e
  have hz4 : g4.objs.size = hp.objs.size + 1 := by rw [← hg4, Heap.size_update, Heap.size_update, hz2]
  obtain ⟨p, q, hTO⟩ := hTO
  refine wpAny_pure ⟨plainId_quiet F.plain_extend_loop _, ext_loop (k1 := k1) (k2 := k2) (xs := xs) (ys := ys) (s := ⟨g4, g, d, tk, os⟩) (A := A.in1) hh D (S := hp.objs.size) (N := hp.objs.size + 1) .none (fun c hc => ⟨(hnS c hc).symm, Nat.lt_succ_of_lt (hlt c hc)⟩) (Nat.lt_succ_self _) hl _ 0 _ _ rfl (Nat.zero_le _)
    (.inl ⟨k4 _ _ hz, p, q, k4 _ _ hTO⟩) ⟨k4 _ _ W.TI, W.it1.at fun o e => k4 _ o e, W.it2.at fun o e => k4 _ o e, W.q1.at fun o e => k4 _ o e, W.q2.at fun o e => k4 _ o e⟩ hS₄ ⟨rfl, fun j h => by omega⟩ (by rw [hz4]; exact Nat.le_refl _) (fun j T e => by simp at e) fun h' acc' c' kk e g' l tk2 => ?_⟩
  exact ⟨rfl, hQ h' acc' c' tk2 (fun d' o h1 h2 e => kk d' o (Nat.lt_succ_of_lt h1) (by simp only [List.mem_cons, not_or] at h2 ⊢; exact ⟨Nat.ne_of_lt h1, h2⟩) (k4 _ _ e)) e g' l⟩
end
end PZ
set_option maxHeartbeats 2000000
/-! PD 18: list(zip(a, b)). -/
namespace PD
open PySem PySem.Spec PyProof.Rows L2 PySem.W
/-- new things laid over what was tracked -/
def over (H N : Hp) : Hp := fun d => match N d with
  | some o => some o
  | none => H d
theorem over_new {H N : Hp} {d : Addr} {o : HO} (h : N d = some o) : over H N d = some o := by unfold over; rw [h]
theorem over_old {H N : Hp} {d : Addr} (h : N d = none) : over H N d = H d := by unfold over; rw [h]
section
variable {X : Cx}
theorem news_inv {pins : List (Addr × Obj)} {σ : L2.St} {H N : Hp} {s s' : Shared} (I : Inv X pins σ H s) (hos : s'.os = s.os) (hg : AllBare s'.gens) (k : ∀ b o, s.heap.get? b = some o → s'.heap.get? b = some o) (hn : ∀ d o, N d = some o → s.heap.objs.size ≤ d)
    (ok : ∀ d o, N d = some o → ObjOk X.prog X.w (over H N) s'.heap d o) : Inv X pins σ (over H N) s' ∧ Same H (over H N) := by
  have old : ∀ d o, H d = some o → over H N d = some o := fun d o e => by
    cases q : N d with
    | none => rw [over_old q]; exact e
    | some u =>
      rw [I.hok.fresh (hn d u q)] at e
      cases e
  refine ⟨I.call' (ch := []) hos ⟨fun b u q _ _ _ => k b u q, fun b u q _ _ _ => ⟨u.slots, k b u q⟩, fun b u q n _ => ?_, fun b u q _ => ⟨u, k b u q⟩, fun b xs q => old _ _ q, fun b u xs q => old _ _ q, fun b ps q => ⟨#[], by rw [old _ _ q]; simp⟩⟩ (fun d o e => ?_) hg (fun _ w => nomatch w), fun b o e => .of (old b o e) fun q t => t.ext old⟩
  · cases q2 : N b with
    | none => rw [over_old q2]; exact n
    | some o2 => exact absurd (Heap.lt_size q) (Nat.not_lt.mpr (hn b o2 q2))
  · cases q2 : N d with
    | some o2 =>
      rw [over_new q2] at e
      cases e
      exact ok d o q2
    | none =>
      rw [over_old q2] at e
      exact (I.hok d o e).stay (fun c v _ q => k c v q) (fun c q => old _ _ q) fun c xs q => old _ _ q
end
section
variable {X : Cx} {Γ : List Kd} {A : Addr → Prop} {B : Hp} {E : XK} {k : Nat} {e a b : Expr} {fa fb fl : Fl} {ma mb : ME} {p p2 q pos : Pos}
def fListZip (x y : PyData) : Option PyData := match seqOf x, seqOf y with
  | some xs, some ys => match okLen (zipD xs ys) with
    | true => some (.list (zipD xs ys))
    | false => none
  | _, _ => none
def backV : Value → V
  | .none => .non
  | .bool b => .bl b
  | .int i _ => .int i
  | .str x _ => .str x
  | .bytes b _ => .byt b
  | .float b _ => .flt b
  | .ref a => .ref a
  | .type n => .ty n
  | _ => .non
theorem relV_back {v : V} {u : Value} (h : L2.RelV v u) : v = backV u := by
  cases v with
  | non => cases (show u = Value.none from h); rfl
  | bl b => cases (show u = Value.bool b from h); rfl
  | int i => obtain ⟨t, rfl⟩ := (show ∃ t, u = Value.int i t from h); rfl
  | str x => obtain ⟨t, rfl⟩ := (show ∃ t, u = Value.str x t from h); rfl
  | byt b => obtain ⟨t, rfl⟩ := (show ∃ t, u = Value.bytes b t from h); rfl
  | flt b => obtain ⟨t, rfl⟩ := (show ∃ t, u = Value.float b t from h); rfl
  | ref a => cases (show u = Value.ref a from h); rfl
  | ty n => cases (show u = Value.type n from h); rfl
theorem relV_inj {v v' : V} {u : Value} (h : L2.RelV v u) (h' : L2.RelV v' u) : v = v' := (relV_back h).trans (relV_back h').symm
theorem vals_getV : ∀ {xs : List V} {us : List Value} {i : Nat} {u : Value}, Vals xs us → us[i]? = some u → ∃ x, xs[i]? = some x ∧ L2.RelV x u
  | _, _, _, _, .nil, e => by simp at e
  | _, _, 0, _, .cons r _, e => by simp at e; subst e; exact ⟨_, rfl, r⟩
  | _, _, i + 1, u, .cons _ t, e => by
    obtain ⟨x, h1, h2⟩ := vals_getV (i := i) (u := u) t (by simpa using e)
    exact ⟨x, by simpa using h1, h2⟩
theorem dvAll_get' {K : PySem.W.Frag} {H : Hp} {S : Addr → Prop} : ∀ {vs : List V} {xs : List PyData}, vs.length = xs.length → (∀ (i : Nat) (v : V) (x : PyData), vs[i]? = some v → xs[i]? = some x → Dv K H S v x) → DvAll K H S vs xs
  | [], [], _, _ => .nil
  | v :: vs, x :: xs, h, g => .cons (g 0 v x rfl rfl) (dvAll_get' (Nat.succ.inj h) fun i v' x' e1 e2 => g (i + 1) v' x' (by simpa using e1) (by simpa using e2))
  | [], _ :: _, h, _ => by cases h
  | _ :: _, [], h, _ => by cases h
def refOf : Value → V
  | .ref T => .ref T
  | _ => .non
noncomputable def newsOf (S : Addr) (ws us1 us2 : List V) (acc : Array Value) (n : Nat) : Hp := fun d => open Classical in if d = S then some (.lst ws) else if h : ∃ j : Nat, j < n ∧ acc[j]? = some (Value.ref d) then some (.tup [us1.getD h.choose .non, us2.getD h.choose .non]) else none
theorem j_listZip (z : Cz X E k) (hm : X.mg "list" = none) (hm2 : X.mg "zip" = none) (ha : PE X a (tE X.K Γ A B E fa ma)) (hb : PE X b (tE X.K Γ A B E fb mb)) (hfa : fa.el = .p) (hfb : fb.el = .p) (hg : Gl X "list" := by rfl) (hg2 : Gl X "zip" := by rfl)
    (hs : starEach [a, b] X.env = (false, eval a X.env) :: starEach [b] X.env := by rfl) (hpl : (backTo q (starEach [b] X.env)).any (·.1) = false := by rfl) (hs2 : starEach [b] X.env = (false, eval b X.env) :: starEach [] X.env := by rfl) :
    PE X (.Call (.Name "list" p) [.Call (.Name "zip" p2) [a, b] [] q] [] pos) (tE X.K Γ A B E .f (mOp2 fListZip ma mb)) := by
  refine ⟨fun pins s σ H Q I ⟨O, env, m, h⟩ => ?_⟩
  refine Call_ (ld_blt I hg hm bt_list ?_)
  refine PyProof.Rows.callWith_type1 (PyProof.Rows.args_cons ?_ rfl) rfl rfl
  refine Call_ (ld_blt I hg2 hm2 PyProof.Rows.boot_zip ?_)
  unfold mOp2 at h
  refine PyProof.Rows.callWith_type1 (thn ((pa_cons ha (pa_cons hb pa_nil hs2) hs).run q pins s σ H (fun ws H1 => ∃ l1 l2 k1 k2 xs ys us1 us2, ws = [V.ref l1, V.ref l2] ∧ PZ.SqK k1 X.K H1 l1 us1 ∧ PZ.SqK k2 X.K H1 l2 us2 ∧ DvAll X.K H1 (sset .p A O) us1 xs ∧ DvAll X.K H1 (sset .p A O) us2 ys ∧ okLen (zipD xs ys) = true ∧
    Cor A B O H1 ∧ ∀ t us H2, Same H1 H2 → H1 t = none → H2 t = some (.lst us) → DvAll X.K H2 (fun b => (A b ∨ own O b) ∨ b = t) us (zipD xs ys) → Q (.ref t) H2) I ⟨O, env, m, ?_⟩) fun us s1 ⟨ws, H1, I1, r1, q1⟩ => ?_) hs hpl
  · cases e1 : ma env with
    | bad => simp only [e1, Res.bind] at h
    | exc c x => simp only [e1, Res.bind] at h; exact h
    | ok x =>
      simp only [e1, Res.bind] at h
      intro v H1 s1 r1
      refine ⟨O, env, m.up s1, ?_⟩
      cases e2 : mb env with
      | bad => simp only [e2] at h
      | exc c x => simp only [e2] at h; exact h
      | ok y =>
        simp only [e2, Res.opt] at h
        intro u H2 s2 r2
        have c2 := m.cor.up (s1.trans s2)
        unfold fListZip at h
        cases e3 : seqOf x with
        | none => simp only [e3] at h
        | some xs =>
          cases e4 : seqOf y with
          | none => simp only [e3, e4] at h
          | some ys =>
            cases e5 : okLen (zipD xs ys) with
            | false => simp only [e3, e4, e5] at h
            | true =>
              simp only [e3, e4, e5] at h
              have src : ∀ {f : Fl} {v : V} {x : PyData} {xs : List PyData}, f.el = .p → VRel X.K f A B O H2 v x → seqOf x = some xs → ∃ l k us, v = .ref l ∧ PZ.SqK k X.K H2 l us ∧ DvAll X.K H2 (sset .p A O) us xs := fun {f v x xs} hf r e => by
                cases x with
                | list zs =>
                  cases e
                  obtain ⟨l, us, rfl, h1, h2⟩ := (r.items c2).1 xs rfl
                  rw [hf] at h2
                  exact ⟨l, false, us, rfl, h1.sq, h2⟩
                | tuple zs =>
                  cases e
                  obtain ⟨l, us, rfl, h1, h2⟩ := (r.items c2).2 xs rfl
                  rw [hf] at h2
                  exact ⟨l, true, us, rfl, h1.sq, h2⟩
                | _ => cases e
              obtain ⟨l1, k1, us1, rfl, g1, d1⟩ := src hfa (r1.same s2) e3
              obtain ⟨l2, k2, us2, rfl, g2, d2⟩ := src hfb r2 e4
              exact ⟨l1, l2, k1, k2, xs, ys, us1, us2, rfl, g1, g2, d1, d2, e5, c2, fun t us H3 s3 ht h3 hd => h _ H3 ((s1.trans s2).trans s3) ⟨t, us, _, rfl, rfl, h3, c2.bn ht, c2.an ht, c2.on ht, hd⟩⟩
  · obtain ⟨l1, l2, k1, k2, xs, ys, us1, us2, rfl, g1, g2, d1, d2, ho, c1, q1⟩ := q1
    cases r1 with
    | cons r rr =>
      cases rr with
      | cons r' rr =>
        cases rr
        cases r
        cases r'
        obtain ⟨its1, rv1, p1, la⟩ := PZ.sqk I1 g1
        obtain ⟨its2, rv2, p2, lb⟩ := PZ.sqk I1 g2
        have n1 := d1.length
        have n2 := d2.length
        have m1 := rv1.length
        have m2 := rv2.length
        refine zip_begins2 (PZ.begins k1 l1 its1.toArray) (PZ.begins k2 l2 its2.toArray) p1 p2 fun h' hz hTI hTO h1 h2 hsz hk => ?_
        refine PyProof.Rows.args_nil ?_
        have hmin : min its1.toArray.size its2.toArray.size = (zipD xs ys).length := by rw [zipD_len, List.size_toArray, List.size_toArray]; omega
        have D : PZ.Ap (s1.heap.objs.size + 4) (s1.heap.objs.size + 2) (s1.heap.objs.size + 3) s1.heap.objs.size (s1.heap.objs.size + 1) l1 l2 := ⟨PZ.sep_of la lb, Nat.ne_of_lt la, Nat.ne_of_lt (Nat.lt_succ_of_lt lb)⟩
        refine PZ.list_zip (k1 := k1) (k2 := k2) (xs := its1.toArray) (ys := its2.toArray) (s := { s1 with heap := h' }) (I1.ok.hd z.calm) D hz ⟨_, _, hTO⟩ ⟨hTI, .zero h1, .zero h2, PZ.IsQ.at p1 fun o e => hk _ o e, PZ.IsQ.at p2 fun o e => hk _ o e⟩ (fun c hc => ?_) (by rw [hmin, sizeLine_eq]; exact Nat.le_of_ble_eq_true ho) fun h'' acc c tk kk hS hG hT => ?_
        · show c < h'.objs.size
          rw [hsz]
          simp only [List.mem_cons, List.not_mem_nil, or_false] at hc
          rcases hc with rfl | rfl | rfl | rfl | rfl | rfl | rfl <;> first | exact Nat.add_lt_add_left (by decide) _ | exact Nat.lt_add_of_pos_right (by decide) | exact Nat.lt_of_lt_of_le la (Nat.le_add_right _ _) | exact Nat.lt_of_lt_of_le lb (Nat.le_add_right _ _)
        · have hlen : acc.size = (zipD xs ys).length := hG.1.trans hmin
          generalize hw : acc.toList.map refOf = ws
          generalize hS2 : h'.objs.size = S at hS hT kk
          have hSs : S = s1.heap.objs.size + 5 := hS2.symm.trans hsz
          have sl : s1.heap.objs.size ≤ S := by rw [hSs]; exact Nat.le_add_right _ _
          -- the j-th pair
          have pr : ∀ (j : Nat) (d : Addr), acc[j]? = some (Value.ref d) → ∃ v1 v2 x y, us1[j]? = some v1 ∧ us2[j]? = some v2 ∧ L2.RelV v1 x ∧ L2.RelV v2 y ∧ IsTupOf2 h'' d x y ∧ j < (zipD xs ys).length := fun j d e => by
            have hj : j < acc.size := by
              rcases Nat.lt_or_ge j acc.size with h | h
              · exact h
              · rw [Array.getElem?_eq_none h] at e; cases e
            obtain ⟨T, x, y, e1, e2, e3, e4⟩ := hG.2 j (by rw [hmin, ← hlen]; exact hj)
            rw [e] at e1
            cases e1
            obtain ⟨v1, w1, r1⟩ := vals_getV rv1 (by simpa using e2)
            obtain ⟨v2, w2, r2⟩ := vals_getV rv2 (by simpa using e3)
            exact ⟨v1, v2, x, y, w1, w2, r1, r2, e4, by rw [← hlen]; exact hj⟩
          have at_ : ∀ (j : Nat) (d : Addr), acc[j]? = some (Value.ref d) → ∃ v1 v2, us1[j]? = some v1 ∧ us2[j]? = some v2 ∧ newsOf S ws us1 us2 acc (zipD xs ys).length d = some (.tup [v1, v2]) := fun j d e => by
            obtain ⟨v1, v2, x, y, w1, w2, r1, r2, ht, hj⟩ := pr j d e
            have nS : d ≠ S := Nat.ne_of_gt (hT j d e)
            have hex : ∃ j : Nat, j < (zipD xs ys).length ∧ acc[j]? = some (Value.ref d) := ⟨j, hj, e⟩
            refine ⟨v1, v2, w1, w2, ?_⟩
            unfold newsOf
            rw [if_neg nS, dif_pos hex]
            obtain ⟨v3, v4, x', y', w3, w4, r3, r4, ht', _⟩ := pr hex.choose d hex.choose_spec.2
            have eo : some _ = some _ := ht.symm.trans ht'
            simp only [Option.some.injEq, Obj.mk.injEq, Data.seq.injEq, Array.mk.injEq, List.cons.injEq, and_true, true_and] at eo
            obtain ⟨rfl, rfl⟩ := eo
            rw [List.getD_eq_getElem?_getD, List.getD_eq_getElem?_getD, w3, w4, relV_inj r1 r3, relV_inj r2 r4]
            rfl
          have hws : ws.length = (zipD xs ys).length := by rw [← hw, List.length_map, Array.length_toList, hlen]
          have hnew : ∀ d o, newsOf S ws us1 us2 acc (zipD xs ys).length d = some o → (d = S ∧ o = .lst ws) ∨ ∃ (j : Nat) (v1 v2 : V), acc[j]? = some (Value.ref d) ∧ us1[j]? = some v1 ∧ us2[j]? = some v2 ∧ o = .tup [v1, v2] := fun d o e => by
            by_cases hd : d = S
            · refine .inl ⟨hd, ?_⟩
              unfold newsOf at e
              rw [if_pos hd] at e
              exact (Option.some.inj e).symm
            · by_cases hex : ∃ j : Nat, j < (zipD xs ys).length ∧ acc[j]? = some (Value.ref d)
              · obtain ⟨j, hj, ej⟩ := hex
                obtain ⟨v1, v2, w1, w2, en⟩ := at_ j d ej
                rw [en] at e
                exact .inr ⟨j, v1, v2, ej, w1, w2, (Option.some.inj e).symm⟩
              · unfold newsOf at e
                rw [if_neg hd, dif_neg hex] at e
                cases e
          have hnS : newsOf S ws us1 us2 acc (zipD xs ys).length S = some (.lst ws) := by
            unfold newsOf
            rw [if_pos rfl]
          have kall : ∀ d o, s1.heap.get? d = some o → h''.get? d = some o := fun d o e => by
            have l := Heap.lt_size e
            refine kk d o (Nat.lt_of_lt_of_le l sl) ?_ (hk d o e)
            simp only [List.mem_cons, List.not_mem_nil, or_false, not_or]
            exact ⟨Nat.ne_of_lt (Nat.lt_of_lt_of_le l (Nat.le_add_right _ _)), Nat.ne_of_lt (Nat.lt_of_lt_of_le l (Nat.le_add_right _ _)), Nat.ne_of_lt l, Nat.ne_of_lt (Nat.lt_of_lt_of_le l (Nat.le_add_right _ _))⟩
          have hge : ∀ d o, newsOf S ws us1 us2 acc (zipD xs ys).length d = some o → s1.heap.objs.size ≤ d := fun d o e => by
            rcases hnew d o e with ⟨rfl, _⟩ | ⟨j, _, _, ej, _⟩
            · exact sl
            · exact Nat.le_of_lt (Nat.lt_of_le_of_lt sl (hT j d ej))
          have hok : ∀ d o, newsOf S ws us1 us2 acc (zipD xs ys).length d = some o → ObjOk X.prog X.w (over H1 (newsOf S ws us1 us2 acc (zipD xs ys).length)) h'' d o := fun d o e => by
            rcases hnew d o e with ⟨rfl, rfl⟩ | ⟨j, v1, v2, ej, w1, w2, rfl⟩
            · refine ⟨by rw [hws, sizeLine_eq]; exact Nat.le_of_ble_eq_true ho, acc.toList, c, ?_, by simpa using hS⟩
              rw [← hw]
              have key : ∀ l : List Value, (∀ u ∈ l, ∃ T, u = Value.ref T) → Vals (l.map refOf) l := by
                intro l
                induction l with
                | nil => intro _; exact .nil
                | cons u us ih =>
                  intro h
                  obtain ⟨T, rfl⟩ := h u List.mem_cons_self
                  exact .cons rfl (ih fun w hw => h w (List.mem_cons_of_mem _ hw))
              refine key _ fun u hu => ?_
              obtain ⟨i, hi⟩ := List.mem_iff_getElem?.mp hu
              rw [Array.getElem?_toList] at hi
              have hj : i < acc.size := by
                rcases Nat.lt_or_ge i acc.size with h | h
                · exact h
                · rw [Array.getElem?_eq_none h] at hi; cases hi
              obtain ⟨T, _, _, e3, _⟩ := hG.2 i (by rw [hmin, ← hlen]; exact hj)
              rw [hi] at e3
              exact ⟨T, Option.some.inj e3⟩
            · obtain ⟨v3, v4, x, y, w3, w4, r3, r4, ht, _⟩ := pr j d ej
              rw [w1] at w3
              rw [w2] at w4
              cases w3
              cases w4
              exact ⟨by rw [sizeLine_eq]; exact (by decide : 2 ≤ 16777216), [x, y], .cons r3 (.cons r4 .nil), ⟨_, ht, rfl, _, rfl⟩⟩
          obtain ⟨J, sm⟩ := news_inv (N := newsOf S ws us1 us2 acc (zipD xs ys).length) (s' := { s1 with heap := h'', toks := tk }) I1 rfl I1.bare kall hge hok
          have hfr : H1 S = none := I1.hok.fresh sl
          refine ⟨.ref S, _, J, rfl, q1 S ws _ sm hfr (over_new hnS) ?_⟩
          refine dvAll_get' hws fun i v x e1 e2 => ?_
          obtain ⟨x1, y1, f1, f2, rfl⟩ := zipD_get e2
          rw [← hw, List.getElem?_map] at e1
          obtain ⟨u, eu, rfl⟩ := Option.map_eq_some_iff.mp e1
          have hi : i < (zipD xs ys).length := (List.getElem?_eq_some_iff.mp e2).1
          obtain ⟨T, xx, yy, e3, _⟩ := hG.2 i (by rw [hmin]; exact hi)
          have eu' : u = .ref T := by
            rw [Array.getElem?_toList] at eu
            rw [eu] at e3
            exact Option.some.inj e3
          subst eu'
          obtain ⟨v1, v2, w1, w2, en⟩ := at_ i T e3
          have lT : S < T := hT i T e3
          have hTn : H1 T = none := I1.hok.fresh (Nat.le_of_lt (Nat.lt_of_le_of_lt sl lT))
          have mv : ∀ {v : V} {x : PyData}, Dv X.K H1 (sset .p A O) v x → Dv X.K (over H1 (newsOf S ws us1 us2 acc (zipD xs ys).length)) (fun b => (A b ∨ own O b) ∨ b = S) v x := fun {v x} d => Dv.mono (fun a o _ q => sm a o q) (fun a n hn w => by
            rcases w with w | w
            · exact n w
            · exact hn (by rw [w]; exact hfr)) x d
          refine Dv.tup (.inl ⟨?_, .inl (over_new en)⟩) (.cons (mv (dvAll_inj d1 w1 f1)) (.cons (mv (dvAll_inj d2 w2 f2)) .nil))
          rintro ((w | w) | w)
          · exact c1.an hTn w
          · exact c1.on hTn w
          · exact Nat.ne_of_gt lT w
end
end PD
set_option maxHeartbeats 2000000
/-! PC 1: a lambda that was handed on is called: its body runs over the cells that it holds. -/
namespace PD
open PySem PySem.Spec PyProof.Rows L2 PySem.W
/-- the heap of a lambda's body: its cells are its own -/
def offC (H : Hp) (cl : List (Str × Addr)) : Hp := fun d => if d ∈ cl.map (·.2) then none else H d
theorem offC_in {H : Hp} {cl : List (Str × Addr)} {d : Addr} (h : d ∈ cl.map (·.2)) : offC H cl d = none := if_pos h
theorem offC_out {H : Hp} {cl : List (Str × Addr)} {d : Addr} (h : d ∉ cl.map (·.2)) : offC H cl d = H d := if_neg h
theorem offC_le {H : Hp} {cl : List (Str × Addr)} : ∀ d o, offC H cl d = some o → H d = some o := fun d o e => by
  by_cases h : d ∈ cl.map (·.2)
  · rw [offC_in h] at e; cases e
  · rw [offC_out h] at e; exact e
/-- .. they are given back -/
def onC (H H' : Hp) (cl : List (Str × Addr)) : Hp := fun d => if d ∈ cl.map (·.2) then H d else H' d
theorem onC_in {H H' : Hp} {cl : List (Str × Addr)} {d : Addr} (h : d ∈ cl.map (·.2)) : onC H H' cl d = H d := if_pos h
theorem onC_out {H H' : Hp} {cl : List (Str × Addr)} {d : Addr} (h : d ∉ cl.map (·.2)) : onC H H' cl d = H' d := if_neg h
theorem Caps.mem {S : Addr → Prop} {H : Hp} : ∀ {ys : List (Str × Addr)} {vs : List V} {d : Addr}, Caps S H ys vs → d ∈ ys.map (·.2) → ¬ S d ∧ ∃ o u, H d = some (CelO d o) ∧ o.data = .cell (some u)
  | [], [], d, _, h => by simp at h
  | y :: ys, v :: vs, d, ⟨⟨n, o, u, e, dd, r⟩, t⟩, h => by
    rw [List.map_cons] at h
    rcases List.mem_cons.mp h with rfl | h
    · exact ⟨n, o, u, e, dd⟩
    · exact Caps.mem t h
  | [], _ :: _, _, h, _ => h.elim
  | _ :: _, [], _, h, _ => h.elim
theorem Caps.get {S : Addr → Prop} {H : Hp} : ∀ {ys : List (Str × Addr)} {vs : List V} {i : Nat} {v : V}, Caps S H ys vs → vs[i]? = some v → ∃ y, ys[i]? = some y ∧ ∃ o u, H y.2 = some (CelO y.2 o) ∧ o.data = .cell (some u) ∧ L2.RelV v u
  | [], [], _, _, _, e => by simp at e
  | y :: ys, v :: vs, 0, w, ⟨⟨n, o, u, e, dd, r⟩, t⟩, h => by
    simp at h
    subst h
    exact ⟨y, rfl, o, u, e, dd, r⟩
  | y :: ys, v :: vs, i + 1, w, ⟨_, t⟩, h => by
    obtain ⟨y', h1, h2⟩ := Caps.get t (i := i) (v := w) (by simpa using h)
    exact ⟨y', by simpa using h1, h2⟩
  | [], _ :: _, _, _, h, _ => h.elim
  | _ :: _, [], _, _, h, _ => h.elim
theorem Caps.len {S : Addr → Prop} {H : Hp} : ∀ {ys : List (Str × Addr)} {vs : List V}, Caps S H ys vs → ys.length = vs.length
  | [], [], _ => rfl
  | _ :: _, _ :: _, ⟨_, t⟩ => congrArg (· + 1) (Caps.len t)
  | [], _ :: _, h => h.elim
  | _ :: _, [], h => h.elim
mutual
/-- data without a lambda within stand in lists and tuples alone -/
theorem Dv.move {K : PySem.W.Frag} {H H' : Hp} {S : Addr → Prop} (k : ∀ a xs, Rd H a (.lst xs) → Rd H' a (.lst xs)) (k2 : ∀ a xs, Rd H a (.tup xs) → Rd H' a (.tup xs)) : ∀ {v : V} (d : PyData), pl d = true → Dv K H S v d → Dv K H' S v d
  | _, .none, _, .non => .non
  | _, .bool b, _, .bl _ => .bl b
  | _, .int i, _, .int _ => .int i
  | _, .str x, _, .str _ => .str x
  | _, .list ds, p, .lst h hd => .lst ⟨h.1, k _ _ h.2⟩ (DvAll.move k k2 ds p hd)
  | _, .tuple ds, p, .tup h hd => .tup (h.imp (fun z => ⟨z.1, k2 _ _ z.2⟩) id) (DvAll.move k k2 ds p hd)
  | _, .dict _, p, _ => nomatch p
theorem DvAll.move {K : PySem.W.Frag} {H H' : Hp} {S : Addr → Prop} (k : ∀ a xs, Rd H a (.lst xs) → Rd H' a (.lst xs)) (k2 : ∀ a xs, Rd H a (.tup xs) → Rd H' a (.tup xs)) : ∀ {vs : List V} (ds : List PyData), plAll ds = true → DvAll K H S vs ds → DvAll K H' S vs ds
  | _, [], _, .nil => .nil
  | _, d :: ds, p, .cons h1 h2 => .cons (Dv.move k k2 d (Bool.and_eq_true_iff.mp p).1 h1) (DvAll.move k k2 ds (Bool.and_eq_true_iff.mp p).2 h2)
end
/-- cells, as they stand in a heap -/
def CellsIn (h : Heap) (H : Hp) (cl : List (Str × Addr)) : Prop := ∀ c ∈ cl.map (·.2), ∃ o, H c = some (CelO c o) ∧ (∀ vs, o.data ≠ .fields vs) ∧ h.get? c = some o
theorem celO_at {P : Program} {w : World} {H : Hp} {h : Heap} {c : Addr} {o : Obj} (hok : HOk P w H h) (e : H c = some (CelO c o)) : h.get? c = some o := by
  have x : ObjOk P w H h c (.ext fun h => h.get? c = some o) := hok c _ e
  exact x.1
theorem Caps.cells {P : Program} {w : World} {S : Addr → Prop} {H : Hp} {h : Heap} {cl : List (Str × Addr)} {vs : List V} (hok : HOk P w H h) (c : Caps S H cl vs) : CellsIn h H cl := fun d hd => by
  obtain ⟨_, o, u, e, dd⟩ := c.mem hd
  exact ⟨o, e, (fun vs z => by rw [dd] at z; cases z), celO_at hok e⟩
section
variable {H H' : Hp} {h : Heap} {cl : List (Str × Addr)}
theorem tabS_off (hc : CellsIn h H cl) {b : Addr} {q : Str} (t : LamX.TabS H b q) : LamX.TabS (offC H cl) b q := by
  obtain ⟨ps, h1, h2, h3⟩ := t
  have n1 : b ∉ cl.map (·.2) := fun z => by
    obtain ⟨o, e, _⟩ := hc b z
    rw [h1] at e
    cases e
  refine ⟨ps, by rw [offC_out n1]; exact h1, h2, fun pos cv hcv => ?_⟩
  obtain ⟨c, e1, e2⟩ := h3 pos cv hcv
  refine ⟨c, e1, ?_⟩
  rw [offC_out fun z => ?_]
  · exact e2
  · obtain ⟨o, e, dd, hg⟩ := hc c z
    rw [e2] at e
    have e3 : LamX.CodeO c q = CelO c o := Option.some.inj e
    unfold LamX.CodeO CelO at e3
    injection e3 with e3
    have e4 := congrFun e3 h
    obtain ⟨oc, vs, t, g1, g2, _⟩ := (show (∃ (oc : Obj) (vs : Array Value) (t : Tok), h.get? c = some oc ∧ oc.data = .fields vs ∧ vs[1]? = some (.str q t)) from by rw [e4]; exact hg)
    rw [hg] at g1
    cases g1
    exact dd _ g2
theorem on_le (hn : ∀ c ∈ cl.map (·.2), H' c = none) : ∀ d o, H' d = some o → onC H H' cl d = some o := fun d o e => by
  rw [onC_out fun z => by rw [hn d z] at e; cases e]
  exact e
theorem same_on (hc : CellsIn h H cl) (hn : ∀ c ∈ cl.map (·.2), H' c = none) (s : Same (offC H cl) H') : Same H (onC H H' cl) := fun d o e => by
  by_cases hd : d ∈ cl.map (·.2)
  · refine .of (by rw [onC_in hd]; exact e) fun q t => ?_
    obtain ⟨ps, h1, _⟩ := t
    obtain ⟨o', e', _⟩ := hc d hd
    rw [h1] at e'
    cases e'
  · have z := s d o (by rw [offC_out hd]; exact e)
    cases o with
    | tbl ps =>
      obtain ⟨⟨ps', e1⟩, tt⟩ := z
      exact ⟨⟨ps', on_le hn _ _ e1⟩, fun q hm t => (tt q hm (tabS_off hc t)).ext (on_le hn)⟩
    | _ => exact on_le hn _ _ z
theorem un_on {fs : List Addr} {h h' : Heap} (hc : CellsIn h H cl) (u : Un fs [] (offC H cl) H' h h') : Un fs [] H (onC H H' cl) h h' := by
  have off : ∀ {b : Addr}, H b = none → offC H cl b = none ∧ b ∉ cl.map (·.2) := fun {b} n => by
    have nb : b ∉ cl.map (·.2) := fun z => by
      obtain ⟨o, e, _⟩ := hc b z
      rw [n] at e
      cases e
    exact ⟨by rw [offC_out nb]; exact n, nb⟩
  have out : ∀ {b : Addr} {o : HO}, H b = some o → (∀ c o', o ≠ CelO c o') → b ∉ cl.map (·.2) := fun {b o} e n z => by
    obtain ⟨o', e', _⟩ := hc b z
    rw [e] at e'
    exact n b o' (Option.some.inj e')
  refine ⟨fun b o e n => u.keep b o e (off n).1, fun b o e n => u.slot b o e (off n).1, fun b o e n hx => ?_, u.there, fun b xs e => ?_, fun b o xs e => ?_, fun b ps e => ?_⟩
  · rw [onC_out (off n).2]
    exact u.free b o e (off n).1 hx
  · have nb := out e (by unfold CelO; simp)
    rw [onC_out nb]
    exact u.tups b xs (by rw [offC_out nb]; exact e)
  · have nb := out e (by unfold CelO; simp)
    rw [onC_out nb]
    exact u.frzs b o xs (by rw [offC_out nb]; exact e)
  · have nb := out e (by unfold CelO; simp)
    obtain ⟨more, z⟩ := u.tbls b ps (by rw [offC_out nb]; exact e)
    exact ⟨more, by rw [onC_out nb]; exact z⟩
theorem hok_on {P : Program} {w : World} {h' : Heap} (hc : CellsIn h H cl) (hn : ∀ c ∈ cl.map (·.2), H' c = none) (k : ∀ c ∈ cl.map (·.2), ∀ o, h.get? c = some o → h'.get? c = some o) (hok : HOk P w H' h') : HOk P w (onC H H' cl) h' := fun d o e => by
  by_cases hd : d ∈ cl.map (·.2)
  · rw [onC_in hd] at e
    obtain ⟨o', e', dd, hg⟩ := hc d hd
    rw [e] at e'
    cases e'
    exact ⟨k d hd _ hg, ⟨_, k d hd _ hg⟩, fun h1 h2 z st => st _ z⟩
  · rw [onC_out hd] at e
    exact (hok d o e).stay (fun b u _ q => q) (fun b q => on_le hn _ _ q) fun b xs q => on_le hn _ _ q
end
section
variable {P : Program} {w : World} {outer : List Env} {H : Hp} {s : Shared} {cl : List (Str × Addr)} {E : XK}
theorem ub_on {fs : List Addr} {h B h' : Heap} {H' : Hp} (hc : CellsIn h H cl) (u : UB fs (offC H cl) H' h B h') : UB fs H (onC H H' cl) h B h' := by
  have off : ∀ {b : Addr}, H b = none → offC H cl b = none ∧ b ∉ cl.map (·.2) := fun {b} n => by
    have nb : b ∉ cl.map (·.2) := fun z => by
      obtain ⟨o, e, _⟩ := hc b z
      rw [n] at e
      cases e
    exact ⟨by rw [offC_out nb]; exact n, nb⟩
  have out : ∀ {b : Addr} {o : HO}, H b = some o → (∀ c o', o ≠ CelO c o') → b ∉ cl.map (·.2) := fun {b o} e n z => by
    obtain ⟨o', e', _⟩ := hc b z
    rw [e] at e'
    exact n b o' (Option.some.inj e')
  refine ⟨fun b o e n => u.keep b o e (off n).1, u.slot, fun b o e n => ?_, u.there, fun b xs e => ?_, fun b o xs e => ?_, fun b ps e => ?_⟩
  · rw [onC_out (off n).2]
    exact u.free b o e (off n).1
  · have nb := out e (by unfold CelO; simp)
    rw [onC_out nb]
    exact u.tups b xs (by rw [offC_out nb]; exact e)
  · have nb := out e (by unfold CelO; simp)
    rw [onC_out nb]
    exact u.frzs b o xs (by rw [offC_out nb]; exact e)
  · have nb := out e (by unfold CelO; simp)
    obtain ⟨more, z⟩ := u.tbls b ps (by rw [offC_out nb]; exact e)
    exact ⟨more, by rw [onC_out nb]; exact z⟩
/-- what is wished, told over the cells -/
def offE (H : Hp) (cl : List (Str × Addr)) (E : XK) : XK := fun cls d H' => (∀ c ∈ cl.map (·.2), H' c = none) → E cls d (onC H H' cl)
theorem cx_on {u : Value} {s' : Shared} (hc : CellsIn s.heap H cl) (hfr : ∀ b ∈ frs outer, H b = none) (h : L2.CX P w outer (offC H cl) s (offE H cl E) u s') : L2.CX P w outer H s E u s' := by
  obtain ⟨a, B, H', cls, d, rfl, fl, hok, ub, na, os, ag, hE⟩ := h
  have hn : ∀ c ∈ cl.map (·.2), H' c = none := fun c hcm => by
    obtain ⟨o, _, _, hg⟩ := hc c hcm
    exact ub.free c o hg (offC_in hcm)
  have nfr : ∀ c ∈ cl.map (·.2), c ∉ frs outer := fun c hcm z => by
    obtain ⟨o, e, _⟩ := hc c hcm
    rw [hfr c z] at e
    cases e
  refine ⟨a, B, onC H H' cl, cls, d, rfl, fl, hok_on hc hn (fun c hcm o hg => ub.keep c o hg (offC_in hcm) (nfr c hcm)) hok, ub_on hc ub, ?_, os, ag, hE hn⟩
  by_cases ha : a ∈ cl.map (·.2)
  · -- the exception is new
    obtain ⟨o, _, dd, hg⟩ := hc a ha
    obtain ⟨oe, vs, he, _, hd⟩ := fl.there
    have z := fl.1 a o (ub.keep a o hg (offC_in ha) (nfr a ha))
    rw [z] at he
    cases he
    exact (dd _ hd).elim
  · rw [onC_out ha]
    exact na
theorem xok_off {K : PySem.W.Frag} {S : Addr → Prop} {c : Str} {x : PyData} (hc : CellsIn s.heap H cl) (h : XOk K S H E c x) : XOk K S (offC H cl) (offE H cl E) c x := fun H' d v sm hd e1 e2 hn => by
  refine h (onC H H' cl) d v (same_on hc hn sm) ?_ (on_le hn _ _ e1) (Dv.mono (fun a o _ q => .of (on_le hn _ _ q) fun _ t => t.ext (on_le hn)) (fun a n _ => n) x e2)
  by_cases hm : d ∈ cl.map (·.2)
  · rw [hn d hm] at e1
    cases e1
  · rw [offC_out hm] at hd
    exact hd
end

/-! ### lambdas by their bodies -/
/-- the lambda of number i, called with n values: it comes to what g says of what it holds and of them -/
structure LamFn (P : Program) (w : World) (K : PySem.W.Frag) (mg : Str → Option Value) (base : Heap) (k i n : Nat) (g : List PyData → List PyData → Res PyData) : Prop where
  run : ∀ (A : Around) (outer : List Env) (s : Shared) (H : Hp) (f : Addr) (cs vs : List V) (us : List Value) (ds xs : List PyData) (S : Addr → Prop) (Q : VK) (E : XK), Room k A → Env0 P w K mg base A outer s H → LamX.Tabs PD.tabs H → Clo S H f i cs → DvAll K H S cs ds → Vals vs us → vs.length = n → DvAll K H S vs xs → (∀ a, S a → H a ≠ none) →
    (match g ds xs with
      | .ok x => ∀ v H', Same H H' → Dv K H' S v x → Q v H'
      | .exc c x => XOk K S H E c x
      | .bad => False) → codeAny (model P w) A (.call (.ref f) ⟨us, []⟩) (CR (L2.CX P w) outer P w H s Q E) s
def lamB (t : LamTxt) : Bool := decide (t.scope.kind = .function) && !t.scope.isCoroutine && !t.scope.isGenerator && decide (t.ps ++ t.caps).Nodup && t.ps.all (fun x => decide (t.scope.names.lookup x = some .local)) && t.caps.all (fun x => decide (t.scope.names.lookup x = some .free)) &&
  t.scope.names.all (fun y => !decide (y.2 = .cell) && (!decide (y.2 = .free) || decide (y.1 ∈ t.caps)))
structure LamS (t : LamTxt) : Prop where
  kind : t.scope.kind = .function
  co : t.scope.isCoroutine = false
  gen : t.scope.isGenerator = false
  nd : (t.ps ++ t.caps).Nodup
  par : ∀ x ∈ t.ps, t.scope.names.lookup x = some .local
  cap : ∀ x ∈ t.caps, t.scope.names.lookup x = some .free
  noc : ∀ y ∈ t.scope.names, y.2 ≠ .cell
  fre : ∀ y ∈ t.scope.names, y.2 = .free → y.1 ∈ t.caps
theorem lamS_by {t : LamTxt} (h : lamB t = true) : LamS t := by
  unfold lamB at h
  simp only [Bool.and_eq_true, Bool.or_eq_true, Bool.not_eq_true', decide_eq_true_eq, decide_eq_false_iff_not, List.all_eq_true] at h
  obtain ⟨⟨⟨⟨⟨⟨h1, h2⟩, h3⟩, h4⟩, h5⟩, h6⟩, h7⟩ := h
  exact ⟨h1, h2, h3, h4, h5, h6, fun y hy => (h7 y hy).1, fun y hy e => (h7 y hy).2.resolve_left (fun z => z e)⟩
abbrev lamE (t : LamTxt) (L f c' : Addr) (cl : List (Str × Addr)) : Env := PySem.W.envX t.qual t.scope L f (.ref c') cl
/-- the context of a lambda's body -/
def lcx (P : Program) (w : World) (K : PySem.W.Frag) (mg : Str → Option Value) (base : Heap) (t : LamTxt) (A : Around) (outer : List Env) (s : Shared) (H : Hp) (E : XK) (f c' : Addr) (cl : List (Str × Addr)) : Cx where
  prog := P
  w := w
  K := K
  mg := mg
  base := base
  A := A.deeper (lamE t s.heap.objs.size f c' cl)
  N := t.ps ++ t.caps
  s_0 := s
  H_0 := H
  env := lamE t s.heap.objs.size f c' cl
  outer := outer
  stack := lamE t s.heap.objs.size f c' cl :: outer
  ex := []
  calm := true
  fn := fun _ => false
  pn := []
  xe := fun e s' => wpAny (model P w) (A.deeper (lamE t s.heap.objs.size f c' cl)) (leaving (lamE t s.heap.objs.size f c' cl) e) (fun _ s'' => L2.CX P w outer H s E e s'') (fun e' s'' => L2.CX P w outer H s E e' s'') s'
end PD
set_option maxHeartbeats 2000000
/-! PC 2: a lambda keeps its promise; it is called. -/
namespace PD
open PySem PySem.Spec PyProof.Rows L2 PySem.W
section
variable {P : Program} {w : World} {K : PySem.W.Frag} {mg : Str → Option Value} {base : Heap} {t : LamTxt} {A : Around} {outer : List Env} {s : Shared} {H : Hp} {E : XK} {f c' : Addr} {cl : List (Str × Addr)} {cs vs : List V} {us : List Value} {S : Addr → Prop}
theorem lam_start {h₁ : Heap} {tk : Nat} (L : LamS t) (hcl : cl.map (·.1) = t.caps) (hnd : (cl.map (·.2)).Nodup) (hc : Caps S H cl cs) (hl : vs.length = t.ps.length) (r : Vals vs us) (e0 : Env0 P w K mg base A outer s H) (hd : A.handled = none)
    (hns : h₁.Ns s.heap.objs.size fun y => (t.ps.zip us).reverse.lookup y) (kp : ∀ b o, s.heap.get? b = some o → h₁.get? b = some o) :
    Inv (lcx P w K mg base t A outer s (offC H cl) (offE H cl E) f c' cl) [] (L2.start (t.ps ++ t.caps) (vs ++ cs)) (offC H cl) { s with heap := h₁, toks := tk } := by
  have ndC : (cl.map (·.1)).Nodup := by rw [hcl]; exact (List.nodup_append.mp L.nd).2.1
  have ndP : t.ps.Nodup := (List.nodup_append.mp L.nd).1
  have CI := hc.cells e0.hok
  have look : ∀ {y}, t.scope.names.lookup y = some .free → ∃ c, cl.lookup y = some c := fun {y} hl => by
    have hy : y ∈ cl.map (·.1) := by
      rw [hcl]
      exact L.fre _ (PySem.mem_of_lookup hl) rfl
    obtain ⟨⟨n, c⟩, h1, h2⟩ := List.mem_map.mp hy
    exact ⟨c, by cases h2; exact PyProof.Rows.lookup_of_mem_nodup ndC h1⟩
  have hok' : HOk P w (offC H cl) s.heap := fun d o e => by
    have e' := offC_le d o e
    refine (e0.hok d o e').stay (fun b u _ q => q) (fun b q => ?_) fun b xs q => ?_
    · rw [offC_out fun z => ?_]
      · exact q
      · obtain ⟨o', e2, _⟩ := CI b z
        rw [q] at e2
        cases e2
    · rw [offC_out fun z => ?_]
      · exact q
      · obtain ⟨o', e2, _⟩ := CI b z
        rw [q] at e2
        cases e2
  have cellK : ∀ {c : Addr} {v : Option Value}, s.heap.IsCell c v → h₁.IsCell c v := fun {c v} ⟨o, ho, hd⟩ => ⟨o, kp _ _ ho, hd⟩
  have none_ : ∀ {b : Addr}, H b = none → offC H cl b = none := fun {b} n => by
    cases e : offC H cl b with
    | none => rfl
    | some o => rw [offC_le b o e] at n; cases n
  have noA : ∀ b : Addr, b ∉ (lcx P w K mg base t A outer s (offC H cl) (offE H cl E) f c' cl).ex := fun b z => absurd (show b ∈ ([] : List Addr) from z) (by simp)
  have clen := hc.len
  have calen : cl.length = t.caps.length := by rw [← hcl, List.length_map]
  have injC : ∀ x y c, cl.lookup x = some c → cl.lookup y = some c → x = y := fun x y c h1 h2 => by
    have m1 := PySem.mem_of_lookup h1
    have m2 := PySem.mem_of_lookup h2
    obtain ⟨i, hi⟩ := List.mem_iff_getElem?.mp m1
    obtain ⟨j, hj⟩ := List.mem_iff_getElem?.mp m2
    have e1 : (cl.map (·.2))[i]? = some c := by rw [List.getElem?_map, hi]; rfl
    have e2 : (cl.map (·.2))[j]? = some c := by rw [List.getElem?_map, hj]; rfl
    have li : i < (cl.map (·.2)).length := (List.getElem?_eq_some_iff.mp e1).1
    have ij : i = j := (List.getElem?_inj li hnd).mp (e1.trans e2.symm)
    subst ij
    rw [hi] at hj
    cases hj
    rfl
  refine ⟨⟨e0.mod, L.kind, rfl, rfl, Nat.le_refl _, injC, fun y hy => ?_, fun y c z _ => ?_, fun _ => hd, Around.frames_deeper e0.frames, .inr ⟨rfl, rfl⟩, fun b z => absurd z (noA b), fun b o e => ⟨(e0.bs b o e).1, none_ (e0.bs b o e).2⟩, e0.bsz, fun b _ _ => noA b,
      fun b z => absurd z (noA b), e0.funs, fun b hb => none_ (e0.frf b hb)⟩,
    rfl, e0.bare, Un.kept kp, ⟨_, hns, fun i y v e1 e2 e3 => ?_⟩, fun y c e => ?_, hok'.fresh (Nat.le_refl _), fun y c e => offC_in (List.mem_map.mpr ⟨_, PySem.mem_of_lookup e, rfl⟩), fun q hq => absurd (show q ∈ ([] : List (Addr × Obj)) ++ [] from hq) (by simp), hok'.kept kp, ?_⟩
  · have hy : t.scope.names.lookup y = some .cell ∨ t.scope.names.lookup y = some .free := hy
    rcases hy with hy | hy
    · exact absurd rfl (L.noc _ (PySem.mem_of_lookup hy))
    · exact look hy
  · have z : false = true := z
    cases z
  · have e1 : (t.ps ++ t.caps)[i]? = some y := e1
    unfold L2.start at e2
    rw [show (t.ps ++ t.caps).length - (vs ++ cs).length = 0 by rw [List.length_append, List.length_append]; omega, List.replicate_zero, List.append_nil, List.getElem?_map] at e2
    have e2' : (vs ++ cs)[i]? = some v := by
      cases e : (vs ++ cs)[i]? with
      | none => rw [e] at e2; cases e2
      | some a => rw [e] at e2; cases e2; rfl
    by_cases h1 : i < t.ps.length
    · rw [List.getElem?_append_left h1] at e1
      rw [List.getElem?_append_left (by omega)] at e2'
      obtain ⟨u, hu, rv⟩ := r.get e2'
      exact ⟨u, rv, .inl ⟨L.par y (List.mem_of_getElem? e1), NdefX.zip_look ndP e1 hu⟩⟩
    · rw [List.getElem?_append_right (by omega)] at e1
      rw [List.getElem?_append_right (by omega), hl] at e2'
      obtain ⟨⟨y', c⟩, hy', o, u, eo, dd, rv⟩ := hc.get e2'
      have ey : y' = y := by
        have z : (cl.map (·.1))[i - t.ps.length]? = some y' := by rw [List.getElem?_map, hy']; rfl
        rw [hcl, e1] at z
        exact (Option.some.inj z).symm
      subst ey
      refine ⟨u, rv, .inr ⟨.inr (L.cap _ (List.mem_of_getElem? e1)), c, PyProof.Rows.lookup_of_mem_nodup ndC (List.mem_of_getElem? hy'), cellK ⟨o, celO_at e0.hok eo, dd⟩⟩⟩
  · obtain ⟨_, o, u, eo, dd⟩ := hc.mem (List.mem_map.mpr ⟨_, PySem.mem_of_lookup e, rfl⟩)
    exact ⟨_, cellK ⟨o, celO_at e0.hok eo, dd⟩⟩
  · show (L2.start _ _).length = (t.ps ++ t.caps).length
    unfold L2.start
    rw [List.length_append, List.length_map, List.length_replicate, List.length_append, List.length_append]
    omega

theorem rd_off {h : Heap} (hc : CellsIn h H cl) {a : Addr} {xs : List V} {g : List V → HO} (hg : g = .lst ∨ g = .tup) (h : Rd H a (g xs)) : Rd (offC H cl) a (g xs) := by
  have ne : ∀ o, H a = some o → (∀ c o', o ≠ CelO c o') → offC H cl a = some o := fun o e n => by
    rw [offC_out fun z => ?_]
    · exact e
    · obtain ⟨o', e', _⟩ := hc a z
      rw [e] at e'
      exact n a o' (Option.some.inj e')
  rcases h with h | ⟨o, h⟩
  · exact .inl (ne _ h (by rcases hg with rfl | rfl <;> (unfold CelO; simp)))
  · exact .inr ⟨o, ne _ h (by unfold CelO; simp)⟩
/-- what a lambda makes of what it holds and gets -/
def gLam (m : ME) : List PyData → List PyData → Res PyData := fun ds xs => match plAll ds && plAll xs with
  | true => m (xs ++ ds)
  | false => .bad
/-- a lambda by its body -/
def LamBody (P : Program) (w : World) (K : PySem.W.Frag) (mg : Str → Option Value) (base : Heap) (t : LamTxt) (k : Nat) (m : ME) : Prop :=
  ∀ (A0 : Around) (outer : List Env) (s : Shared) (H : Hp) (E : XK) (f c' : Addr) (cl : List (Str × Addr)) (A : Addr → Prop), cl.map (·.1) = t.caps → let X := lcx P w K mg base t A0 outer s H E f c' cl
    Cz X E k → ∃ fl, fl.gives .p = true ∧ PE X t.body (tE K (atEntry (t.ps.length + t.caps.length) 0) A H E fl m)
theorem lam_fn {i n k : Nat} {m : ME} (hi : lams[i]? = some t) (L : LamS t) (hn : t.ps.length = n)
    (hbind : ∀ (cl : List (Str × Addr)) (pm cv ctv : Value) (us : List Value), us.length = n → bindArgs (PySem.W.kla_fn "<lambda>" t.qual t.params t.body t.scope cl pm cv ctv) ⟨us, []⟩ = pure (t.ps.zip us))
    (hb : LamBody P w K mg base t k m) : LamFn P w K mg base (k + 1) i n (gLam m) := by
  refine ⟨fun A outer s H f cs vs us ds xs S Q E hr e0 hT hclo hds r hl hxs hS hq => ?_⟩
  obtain ⟨t', cl, c', pm, ctv, h1, ⟨hcl, hnd⟩, ⟨_, hf⟩, ⟨_, hcc⟩, hc⟩ := hclo
  rw [hi] at h1
  cases h1
  have CI := hc.cells e0.hok
  have of1 := celO_at e0.hok hf
  obtain ⟨⟨oc, ws, tk, hoc, hdc, hvc⟩, _, _⟩ := e0.hok c' _ hcc
  refine PySem.W.kla_callFunE hr.depth of1 rfl L.co L.gen rfl ⟨c', oc, ws, tk, rfl, hoc, hdc, hvc⟩ ?_
  have ul : us.length = n := by rw [← r.length]; exact hl
  rw [hbind _ _ _ _ _ ul]
  refine wpAny_pure (wpAny_newFunctionEnv (fun y hy => L.noc y hy) (fun y hy => L.par _ (List.of_mem_zip hy).1) (fun h₁ hns hsb => ⟨(e0.mod.nolimit.keeps fun b o e => (e0.bs b o e).1).fresh _ hsb, ?_⟩) L.kind)
  show codeAny _ _ (.expr t.body (lamE t s.heap.objs.size f c' cl)) _ _
  have kp : ∀ b o, s.heap.get? b = some o → h₁.get? b = some o := fun b o e => hsb.extBut b o (Nat.ne_of_lt (Heap.lt_size e)) (Heap.get?_push_of_some _ e)
  have J := lam_start (P := P) (w := w) (K := K) (mg := mg) (base := base) (E := E) (f := f) (c' := c') (tk := s.toks + (t.ps.zip us).length) L hcl hnd hc (hl.trans hn.symm) r e0 hr.hd hns kp
  obtain ⟨fl, hfl, hB⟩ := hb A outer s (offC H cl) (offE H cl E) f c' cl S hcl ⟨hr.deeper _, rfl, passes_call (takes_of rfl rfl rfl rfl) fun _ _ _ _ z => z⟩
  have nS : ∀ a, S a → a ∉ cl.map (·.2) := fun a ha z => (hc.mem z).1 ha
  have hS' : ∀ a, S a → offC H cl a ≠ none := fun a ha => by
    rw [offC_out (nS a ha)]
    exact hS a ha
  unfold gLam at hq
  cases hp : (plAll ds && plAll xs) with
  | false => rw [hp] at hq; exact hq.elim
  | true =>
    rw [hp] at hq
    simp only at hq
    have p1 := (Bool.and_eq_true_iff.mp hp).1
    have p2 := (Bool.and_eq_true_iff.mp hp).2
    have dd : DvAll K (offC H cl) S (vs ++ cs) (xs ++ ds) :=
      (DvAll.move (fun a xs => rd_off CI (.inl rfl)) (fun a xs => rd_off CI (.inr rfl)) xs p2 hxs).append (DvAll.move (fun a xs => rd_off CI (.inl rfl)) (fun a xs => rd_off CI (.inr rfl)) ds p1 hds)
    have len : (vs ++ cs).length = t.ps.length + t.caps.length := by
      have c1 := hc.len
      have c2 : cl.length = t.caps.length := by rw [← hcl, List.length_map]
      rw [List.length_append]
      omega
    have si := sim_start (N := t.ps ++ t.caps) (l := 0) (fun p hp => tabS_off CI (hT p hp)) hS' len (by simp) dd
    rw [List.replicate_zero, List.append_nil] at si
    refine PySem.W.kla_codeExpr (wpAny_mono (hB.run [] _ _ (offC H cl) (fun v H' => (∀ c ∈ cl.map (·.2), H' c = none) → Q v (onC H H' cl)) J ⟨fun _ => none, _, si, ?_⟩) (fun v s' hq' => ?_) fun e s' hq' => ?_)
    · cases e : m (xs ++ ds) with
      | bad => rw [e] at hq; exact hq
      | exc c x => rw [e] at hq; exact xok_off CI hq
      | ok x =>
        rw [e] at hq
        intro v H' sm rv hn'
        refine hq v _ (same_on CI hn' sm) ?_
        have rd : Ret K .p S (offC H cl) H' v x := VRel.ret (si.cor.up sm) hfl rv
        exact Dv.mono (fun a o _ q => .of (on_le hn' _ _ q) fun _ t => t.ext (on_le hn')) (fun a n _ => n) x rd
    · obtain ⟨v', H', J', rv, q⟩ := hq'
      have u1 : Un (frs outer) [] (offC H cl) H' s.heap s'.heap := J'.base
      have hn' : ∀ c ∈ cl.map (·.2), H' c = none := fun c hcm => by
        obtain ⟨o, _, _, hg⟩ := CI c hcm
        exact u1.free c o hg (offC_in hcm) (by simp)
      have kc : ∀ c ∈ cl.map (·.2), ∀ o, s.heap.get? c = some o → s'.heap.get? c = some o := fun c hcm o hg => by
        refine u1.keep c o hg (offC_in hcm) (fun z => ?_) (by simp)
        obtain ⟨o', e', _⟩ := CI c hcm
        rw [e0.frf c z] at e'
        cases e'
      exact ⟨v', onC H H' cl, J'.os, J'.bare, un_on CI u1, hok_on CI hn' kc J'.hok, rv, q hn'⟩
    · refine wpAny_mono hq' (fun _ s'' z => ?_) fun e' s'' z => ?_
      · exact cx_on CI e0.frf z
      · exact cx_on CI e0.frf z
end
end PD
set_option maxHeartbeats 2000000
/-! PC 3: a name that holds a lambda is called. -/
namespace PD
open PySem PySem.Spec PyProof.Rows L2 PySem.W
/-- the lambdas that a name may hold: by their numbers, what they say -/
def LamAll (P : Program) (w : World) (K : PySem.W.Frag) (mg : Str → Option Value) (base : Heap) (k n : Nat) (g : Nat → List PyData → List PyData → Res PyData) : Prop := ∀ i, LamFn P w K mg base k i n (g i)
theorem lamFn_bad {P : Program} {w : World} {K : PySem.W.Frag} {mg : Str → Option Value} {base : Heap} {k i n : Nat} : LamFn P w K mg base k i n (fun _ _ => .bad) := ⟨fun _ _ _ _ _ _ _ _ _ _ _ _ _ _ _ _ _ _ _ _ _ _ h => h.elim⟩
theorem LamFn.mono {P : Program} {w : World} {K : PySem.W.Frag} {mg : Str → Option Value} {base : Heap} {k k' i n : Nat} {g : List PyData → List PyData → Res PyData} (h : LamFn P w K mg base k i n g) (e : Nat.ble k k' = true) : LamFn P w K mg base k' i n g :=
  ⟨fun A outer s H f cs vs us ds xs S Q E hr => h.run A outer s H f cs vs us ds xs S Q E (hr.mono (Nat.le_of_ble_eq_true e))⟩
def cloOf : PyData → Option (Int × List PyData)
  | .dict [(.dict [], .tuple (.int i :: ds))] => some (i, ds)
  | _ => none
def mCallV (g : Nat → List PyData → List PyData → Res PyData) (i : Nat) (ml : ML) : ME := fun env => (Res.opt env[i]?).bind fun c => (Res.opt (cloOf c)).bind fun p => (ml env).bind fun xs => g p.1.toNat p.2 xs
theorem cloOf_some {x : PyData} {p : Int × List PyData} (h : cloOf x = some p) : x = .dict [(.dict [], .tuple (.int p.1 :: p.2))] := by
  unfold cloOf at h
  split at h
  · cases h; rfl
  · cases h
section
variable {X : Cx} {Γ : List Kd} {A : Addr → Prop} {B : Hp} {E : XK} {fl : Fl} {k : Nat} {p pos : Pos} {e : Expr} {es : List Expr} {pins : List (Addr × Obj)} {s : Shared} {σ : L2.St} {H : Hp}
theorem clo_fn {f : Addr} {i : Nat} {vs : List V} {S : Addr → Prop} (I : Inv X pins σ H s) (h : Clo S H f i vs) : PySem.W.FnAt f s.heap := by
  obtain ⟨t, cl, c', pm, ctv, _, _, ⟨_, hf⟩, _⟩ := h
  exact ⟨_, _, _, _, celO_at I.hok hf⟩
theorem run_clo {g : List PyData → List PyData → Res PyData} {i kf n : Nat} {f : Addr} {cs vs : List V} {us : List Value} {ds xs : List PyData} {S : Addr → Prop} {Q : VK} (L : LamFn X.prog X.w X.K X.mg X.base kf i n g) (hr : Room kf X.A) (hx : Passes (L2.CX X.prog X.w) X E) (I : Inv X pins σ H s) (hT : LamX.Tabs PD.tabs H)
    (hc : Clo S H f i cs) (hd : DvAll X.K H S cs ds) (r : Vals vs us) (hn : vs.length = n) (hv : DvAll X.K H S vs xs) (hS : ∀ a, S a → H a ≠ none)
    (h : match g ds xs with
      | .ok x => ∀ v H', Same H H' → Dv X.K H' S v x → Q v H'
      | .exc c x => XOk X.K S H E c x
      | .bad => False) : wpAny (model X.prog X.w) X.A (call (.ref f) us) (EP X pins σ Q) X.xe s := by
  refine wpAny_call (codeAny_mono (L.run X.A X.stack s H f cs vs us ds xs S Q E hr I.env0 hT hc hd r hn hv hS h) fun r s' hq => ?_)
  cases r with
  | error e => exact hx pins σ H s e s' I hq
  | ok fl =>
    cases fl with
    | ret u => exact I.after hq
    | next => exact False.elim hq
    | brk => exact False.elim hq
    | cont => exact False.elim hq
theorem j_callV {g : Nat → List PyData → List PyData → Res PyData} {i kf n : Nat} {x : Str} {fls : List Fl} {ml : ML} (L : LamAll X.prog X.w X.K X.mg X.base kf n g) (z : Cz X E k) (hk : Nat.ble kf k = true) (hΓ : Γ[i]? = some .d) (hv : PE X (.Name x p) (tVar i)) (hj : Fl.joins fls = .p) (hn : Nat.beq fls.length n = true)
    (ha : PA X (e :: es) (tL X.K Γ A B E fls ml)) (he : starEach (e :: es) X.env = (false, eval e X.env) :: starEach es X.env := by rfl) (hpl : (backTo pos (starEach es X.env)).any (·.1) = false := by rfl) :
    PE X (.Call (.Name x p) (e :: es) [] pos) (tE X.K Γ A B E .p (mCallV g i ml)) := by
  refine ⟨fun pins s σ H Q I ⟨O, env, si, q⟩ => ?_⟩
  obtain ⟨v, y, h1, h2, h3⟩ := si.slot i .d hΓ (by simp)
  unfold mCallV at q
  rw [h2] at q
  simp only [Res.opt, Res.bind] at q
  cases e0 : cloOf y with
  | none => simp only [e0] at q
  | some pr =>
    obtain ⟨j, ds⟩ := pr
    simp only [e0] at q
    have ey := cloOf_some e0
    subst ey
    cases h3 with
    | @clo f _ cs _ hc hd =>
      refine wpAny_Call_Name_kw (thn (hv.run pins s σ H (fun v H1 => v = .ref f ∧ H1 = H) I ⟨.ref f, h1, rfl, rfl⟩) fun u s1 ⟨v, H1, I1, r1, q1⟩ => ?_)
      obtain ⟨ev, eH⟩ := q1
      subst ev
      rw [eH] at I1
      obtain rfl : u = Value.ref f := r1
      refine PySem.W.callWith_F (clo_fn I1 hc) (thn (ha.run pos pins s1 σ H (fun vs H2 => ∃ xs, ml env = .ok xs ∧ Same H H2 ∧ VRels X.K A B O H2 fls vs xs) I1 ⟨O, env, si, ?_⟩) fun us s2 ⟨vs, H2, I2, r, xs, e1, s2, rs⟩ => ⟨clo_fn I2 (hc.mono (fun a o _ q => s2 a o q) (fun _ n _ => n)), ?_⟩) he hpl
      · cases e1 : ml env with
        | bad => rw [e1] at q; exact q
        | exc c x => rw [e1] at q; exact q
        | ok xs => exact fun vs H' sm rs => ⟨xs, rfl, sm, rs⟩
      · rw [e1] at q
        simp only at q
        have c2 := si.cor.up s2
        have da := rs.all c2
        rw [hj] at da
        refine run_clo (L j.toNat) (z.room.mono (Nat.le_of_ble_eq_true hk)) z.pass I2 c2.tabs (hc.mono (fun a o _ q => s2 a o q) (fun _ n _ => n)) (hd.same s2) r (rs.lenF.trans (Nat.eq_of_beq_eq_true hn)) da (fun a w => w.elim (c2.an' a) fun ⟨i, e⟩ => c2.oh i a e) ?_
        simp only at q ⊢
        cases e2 : g j.toNat ds xs with
        | bad => rw [e2] at q; exact q
        | exc c x => rw [e2] at q; exact fun H' d v sm hd' e1 e2 => q H' d v (c2.same.trans sm) (c2.bn hd') e1 (e2.less fun a w => .inl w)
        | ok x => rw [e2] at q; exact fun v H3 s3 dv => q v H3 (s2.trans s3) dv
theorem j_callV0 {g : Nat → List PyData → List PyData → Res PyData} {i kf : Nat} {x : Str} (L : LamAll X.prog X.w X.K X.mg X.base kf 0 g) (z : Cz X E k) (hk : Nat.ble kf k = true) (hΓ : Γ[i]? = some .d) (hv : PE X (.Name x p) (tVar i)) :
    PE X (.Call (.Name x p) [] [] pos) (tE X.K Γ A B E .p (mCallV g i mNil)) := by
  refine ⟨fun pins s σ H Q I ⟨O, env, si, q⟩ => ?_⟩
  obtain ⟨v, y, h1, h2, h3⟩ := si.slot i .d hΓ (by simp)
  unfold mCallV at q
  rw [h2] at q
  simp only [Res.opt, Res.bind] at q
  cases e0 : cloOf y with
  | none => simp only [e0] at q
  | some pr =>
    obtain ⟨j, ds⟩ := pr
    simp only [e0, mNil] at q
    have ey := cloOf_some e0
    subst ey
    cases h3 with
    | @clo f _ cs _ hc hd =>
      refine wpAny_Call_Name_kw (thn (hv.run pins s σ H (fun v H1 => v = .ref f ∧ H1 = H) I ⟨.ref f, h1, rfl, rfl⟩) fun u s1 ⟨v, H1, I1, r1, q1⟩ => ?_)
      obtain ⟨ev, eH⟩ := q1
      subst ev
      rw [eH] at I1
      obtain rfl : u = Value.ref f := r1
      refine PySem.W.callWith_F0 (clo_fn I1 hc) ?_
      have c2 := si.cor
      refine run_clo (us := []) (L j.toNat) (z.room.mono (Nat.le_of_ble_eq_true hk)) z.pass I1 c2.tabs hc hd .nil rfl .nil (fun a w => w.elim (c2.an' a) fun ⟨i, e⟩ => c2.oh i a e) ?_
      cases e2 : g j.toNat ds [] with
      | bad => rw [e2] at q; exact q
      | exc c x => rw [e2] at q; exact fun H' d v sm hd' e1 e2 => q H' d v (c2.same.trans sm) (c2.bn hd') e1 (e2.less fun a w => .inl w)
      | ok x => rw [e2] at q; exact fun v H3 s3 dv => q v H3 s3 dv
end
end PD
set_option maxHeartbeats 2000000
/-! PC 4: a lambda is made and lent to a def. -/
namespace PD
open PySem PySem.Spec PyProof.Rows L2 PySem.W
/-! ### objects are lent: told while others run -/
def lend (H : Hp) (h : Heap) (L : List (Str × Addr)) : Hp := fun d => if d ∈ L.map (·.2) then (h.get? d).map (CelO d) else H d
structure Lent (H : Hp) (h : Heap) (L : List (Str × Addr)) : Prop where
  free : ∀ c ∈ L.map (·.2), H c = none
  at_ : ∀ c ∈ L.map (·.2), ∃ o, h.get? c = some o ∧ ∀ vs, o.data ≠ .fields vs
section
variable {P : Program} {w : World} {H : Hp} {h : Heap} {L : List (Str × Addr)}
theorem lend_in {d : Addr} {o : Obj} (hd : d ∈ L.map (·.2)) (e : h.get? d = some o) : lend H h L d = some (CelO d o) := by
  unfold lend
  rw [if_pos hd, e]
  rfl
theorem lend_out {d : Addr} (hd : d ∉ L.map (·.2)) : lend H h L d = H d := if_neg hd
theorem lend_le (l : Lent H h L) : ∀ d o, H d = some o → lend H h L d = some o := fun d o e => by
  rw [lend_out fun z => by rw [l.free d z] at e; cases e]
  exact e
theorem lend_cells (l : Lent H h L) : CellsIn h (lend H h L) L := fun c hc => by
  obtain ⟨o, e, nf⟩ := l.at_ c hc
  exact ⟨o, lend_in hc e, nf, e⟩
theorem lend_same (l : Lent H h L) : Same H (lend H h L) := fun d o e => .of (lend_le l d o e) fun _ t => t.ext (lend_le l)
theorem lend_hok (l : Lent H h L) (hok : HOk P w H h) : HOk P w (lend H h L) h := fun d o e => by
  by_cases hd : d ∈ L.map (·.2)
  · obtain ⟨ob, e2, _⟩ := l.at_ d hd
    rw [lend_in hd e2] at e
    cases e
    exact ⟨e2, ⟨_, e2⟩, fun h1 h2 z st => st _ z⟩
  · rw [lend_out hd] at e
    exact (hok d o e).stay (fun b u _ q => q) (fun b q => lend_le l _ _ q) fun b xs q => lend_le l _ _ q
theorem hok_off (hc : CellsIn h H L) (hok : HOk P w H h) : HOk P w (offC H L) h := fun d o e => by
  have ne : ∀ b u, H b = some u → (∀ c ob, u ≠ CelO c ob) → offC H L b = some u := fun b u q n => by
    rw [offC_out fun z => ?_]
    · exact q
    · obtain ⟨o', e2, _⟩ := hc b z
      rw [q] at e2
      exact n b o' (Option.some.inj e2)
  exact (hok d o (offC_le d o e)).stay (fun b u _ q => q) (fun b q => ne _ _ q (by unfold CelO; simp)) fun b xs q => ne _ _ q (by unfold CelO; simp)
section
variable {H2 : Hp} {h2 : Heap}
theorem back_cells (l : Lent H h L) (sm : Same (lend H h L) H2) (hok : HOk P w H2 h2) : CellsIn h2 H2 L := fun c hc => by
  obtain ⟨o, e, nf⟩ := l.at_ c hc
  have z : H2 c = some (CelO c o) := sm c _ (lend_in hc e)
  exact ⟨o, z, nf, celO_at hok z⟩
theorem back_keep (l : Lent H h L) (sm : Same (lend H h L) H2) (hok : HOk P w H2 h2) : ∀ c ∈ L.map (·.2), ∀ o, h.get? c = some o → h2.get? c = some o := fun c hc o e => celO_at hok (sm c _ (lend_in hc e))
theorem back_cells0 (l : Lent H h L) (sm : Same (lend H h L) H2) : CellsIn h H2 L := fun c hc => by
  obtain ⟨o, e, nf⟩ := l.at_ c hc
  exact ⟨o, sm c _ (lend_in hc e), nf, e⟩
theorem back_same (l : Lent H h L) (sm : Same (lend H h L) H2) : Same H (offC H2 L) := fun d o e => by
  have nd : d ∉ L.map (·.2) := fun z => by rw [l.free d z] at e; cases e
  have z := sm d o (lend_le l d o e)
  have CI := back_cells0 l sm
  cases o with
  | tbl ps =>
    obtain ⟨⟨ps', e1⟩, tt⟩ := z
    exact ⟨⟨ps', by rw [offC_out nd]; exact e1⟩, fun q hm t => tabS_off CI (tt q hm (t.ext (lend_le l)))⟩
  | _ => exact (show offC H2 L d = some _ from by rw [offC_out nd]; exact z)
theorem back_un {fs : List Addr} (l : Lent H h L) (sm : Same (lend H h L) H2) (hok : HOk P w H2 h2) (hfs : ∀ b ∈ fs, b ∉ L.map (·.2)) (u : Un fs [] (lend H h L) H2 h h2) : Un fs [] H (offC H2 L) h h2 := by
  have out : ∀ {b : Addr} {o : HO}, H b = some o → b ∉ L.map (·.2) := fun {b o} e z => by rw [l.free b z] at e; cases e
  refine ⟨fun b o e n hf hx => ?_, fun b o e n hf hx => ?_, fun b o e n hx => ?_, u.there, fun b xs e => ?_, fun b o xs e => ?_, fun b ps e => ?_⟩
  · by_cases hb : b ∈ L.map (·.2)
    · exact back_keep l sm hok b hb o e
    · exact u.keep b o e (by rw [lend_out hb]; exact n) hf hx
  · exact u.slot b o e (by rw [lend_out (hfs b hf)]; exact n) hf hx
  · by_cases hb : b ∈ L.map (·.2)
    · exact offC_in hb
    · rw [offC_out hb]
      exact u.free b o e (by rw [lend_out hb]; exact n) hx
  · rw [offC_out (out e)]
    exact u.tups b xs (lend_le l _ _ e)
  · rw [offC_out (out e)]
    exact u.frzs b o xs (lend_le l _ _ e)
  · rw [offC_out (out e)]
    exact u.tbls b ps (lend_le l _ _ e)
theorem back_ub {fs : List Addr} {B : Heap} (l : Lent H h L) (sm : Same (lend H h L) H2) (hok : HOk P w H2 B) (u : UB fs (lend H h L) H2 h B h2) : UB fs H (offC H2 L) h B h2 := by
  have out : ∀ {b : Addr} {o : HO}, H b = some o → b ∉ L.map (·.2) := fun {b o} e z => by rw [l.free b z] at e; cases e
  refine ⟨fun b o e n hf => ?_, u.slot, fun b o e n => ?_, u.there, fun b xs e => ?_, fun b o xs e => ?_, fun b ps e => ?_⟩
  · by_cases hb : b ∈ L.map (·.2)
    · exact back_keep l sm hok b hb o e
    · exact u.keep b o e (by rw [lend_out hb]; exact n) hf
  · by_cases hb : b ∈ L.map (·.2)
    · exact offC_in hb
    · rw [offC_out hb]
      exact u.free b o e (by rw [lend_out hb]; exact n)
  · rw [offC_out (out e)]
    exact u.tups b xs (lend_le l _ _ e)
  · rw [offC_out (out e)]
    exact u.frzs b o xs (lend_le l _ _ e)
  · rw [offC_out (out e)]
    exact u.tbls b ps (lend_le l _ _ e)
end
/-- what is wished where an error leaves, the lent objects back -/
def lendE (H : Hp) (h : Heap) (L : List (Str × Addr)) (E : XK) : XK := fun cls d H2 => Same (lend H h L) H2 ∧ E cls d (offC H2 L)
theorem back_cx {outer : List Env} {s s' : Shared} {E : XK} {u : Value} (l : Lent H s.heap L) (x : L2.CX P w outer (lend H s.heap L) s (lendE H s.heap L E) u s') : L2.CX P w outer H s E u s' := by
  obtain ⟨a, B, H2, cls, d, rfl, fl, hok, ub, na, os, ag, sm, hE⟩ := x
  refine ⟨a, B, offC H2 L, cls, d, rfl, fl, hok_off (back_cells l sm hok) hok, back_ub l sm hok ub, ?_, os, ag, hE⟩
  cases e : offC H2 L a with
  | none => rfl
  | some o => rw [offC_le a o e] at na; cases na
mutual
/-- data without a lambda within, the ban moved -/
theorem Dv.move2 {K : PySem.W.Frag} {H H' : Hp} {S S' : Addr → Prop} (k : ∀ a xs, ¬ S a → Rd H a (.lst xs) → ¬ S' a ∧ Rd H' a (.lst xs)) (k2 : ∀ a xs, ¬ S a → Rd H a (.tup xs) → ¬ S' a ∧ Rd H' a (.tup xs)) : ∀ {v : V} (d : PyData), pl d = true → Dv K H S v d → Dv K H' S' v d
  | _, .none, _, .non => .non
  | _, .bool b, _, .bl _ => .bl b
  | _, .int i, _, .int _ => .int i
  | _, .str x, _, .str _ => .str x
  | _, .list ds, p, .lst h hd => .lst (k _ _ h.1 h.2) (DvAll.move2 k k2 ds p hd)
  | _, .tuple ds, p, .tup h hd => .tup (h.imp (fun z => k2 _ _ z.1 z.2) id) (DvAll.move2 k k2 ds p hd)
  | _, .dict _, p, _ => nomatch p
theorem DvAll.move2 {K : PySem.W.Frag} {H H' : Hp} {S S' : Addr → Prop} (k : ∀ a xs, ¬ S a → Rd H a (.lst xs) → ¬ S' a ∧ Rd H' a (.lst xs)) (k2 : ∀ a xs, ¬ S a → Rd H a (.tup xs) → ¬ S' a ∧ Rd H' a (.tup xs)) : ∀ {vs : List V} (ds : List PyData), plAll ds = true → DvAll K H S vs ds → DvAll K H' S' vs ds
  | _, [], _, .nil => .nil
  | _, d :: ds, p, .cons h1 h2 => .cons (Dv.move2 k k2 d (Bool.and_eq_true_iff.mp p).1 h1) (DvAll.move2 k k2 ds (Bool.and_eq_true_iff.mp p).2 h2)
end
end
end PD
set_option maxHeartbeats 2000000
/-! PC 5: a lambda is made. -/
namespace PD
open PySem PySem.Spec PyProof.Rows L2 PySem.W
theorem clo_names {cells : List (Str × Addr)} : ∀ (names : List (Str × NameKind)) (acc : List (Str × Addr)), (cloFrom cells names acc).map (·.1) = freeOf names ++ acc.map (·.1)
  | [], acc => rfl
  | (n, k) :: r, acc => by
    unfold cloFrom freeOf
    by_cases hk : (k == NameKind.free) = true
    · rw [if_pos hk, clo_names r, List.filter_cons_of_pos (by simpa using hk)]
      simp [freeOf]
    · rw [if_neg hk, clo_names r, List.filter_cons_of_neg (by simpa using hk)]
      rfl
/-- what the making of a lambda asks of the maker's code object -/
structure Mk (base : Heap) (mg : Str → Option Value) (q : Str) (cdv : Value) : Prop where
  ex : ∃ c T, cdv = .ref c ∧ LamX.TabB base mg c T ∧ (T, q) ∈ PD.tabs ∧ ∀ p ∈ PD.tabs, p.1 = T → p.2 = q
abbrev cloX (X : Cx) (t : LamTxt) : List (Str × Addr) := cloFrom X.env.cells t.scope.names []
structure LamAt (X : Cx) (t : LamTxt) (f c' : Addr) (pm ctv : Value) (H : Hp) (s : Shared) : Prop where
  at_ : s.heap.get? f = some (PySem.W.kla_obj "<lambda>" t.qual t.params t.body t.scope (cloX X t) pm c' ctv)
  free : H f = none
  nofr : f ∉ frs X.stack
  nob : X.base.get? f = none
  code : H c' = some (LamX.CodeO c' t.qual)
section
variable {X : Cx} {pins : List (Addr × Obj)} {σ : L2.St} {H : Hp} {s : Shared} {t : LamTxt} {pos : Pos}
theorem nob_of (I : Inv X pins σ H s) {f : Addr} (h : s.heap.objs.size ≤ f) : X.base.get? f = none := by
  cases e : X.base.get? f with
  | none => rfl
  | some o =>
    have h1 := Heap.lt_size (I.bk _ _ e)
    exact absurd (Nat.lt_of_lt_of_le h1 h) (Nat.lt_irrefl _)
theorem nofr_of (I : Inv X pins σ H s) {f : Addr} (h : s.heap.objs.size ≤ f) : f ∉ frs X.stack := fun z => by
  rcases List.mem_cons.mp (I.stkSub _ z) with e | e
  · have h1 := I.lt
    rw [← e] at h1
    exact absurd (Nat.lt_of_lt_of_le h1 h) (Nat.lt_irrefl _)
  · exact I.nofs h e
theorem made {E Q : Value → Shared → Prop} (I : Inv X pins σ H s) (hT : LamX.Tabs PD.tabs H) (M : Mk X.base X.mg t.qual X.env.code) (hq : t.qual = X.env.qual ++ "<lambda>") (hdef : defaultsOf t.params X.env = ([], [])) (hfree : ∀ y ∈ t.scope.names, y.2 = .free → ∃ c, X.env.cells.lookup y.1 = some c)
    (h : ∀ (f c' : Addr) (pm ctv : Value) (H1 : Hp) (s1 : Shared), s.heap.objs.size ≤ f → Inv X pins σ H1 s1 → Same H H1 → LamAt X t f c' pm ctv H1 s1 → Q (.ref f) s1) : wpAny (model X.prog X.w) X.A (eval (.Lambda t.params t.body t.scope pos) X.env) Q E s := by
  obtain ⟨c, T, hcode, TB, hm, hu⟩ := M.ex
  obtain ⟨ps, hTab, ht, ha⟩ := hT _ hm
  refine PySem.W.kla_eval hdef ?_
  rw [← hq]
  have bT : s.heap.BuiltinsAt X.mg T := TB.bm.keeps I.bk
  have gT : s.heap.get? T = some { cls := .none, data := .fields ps } := I.hok T _ hTab
  cases hf : codeAmong pos ps.toList with
  | some cv =>
    obtain ⟨c', e, hco⟩ := ha pos cv hf
    subst e
    refine PySem.W.kla_makeFunctionHit (c := c) (P := T) (ps := ps) (mg := X.mg) (closure_ok hfree) I.ok.glob (I.mod.glob.keeps I.bk) hcode (TB.code.keeps I.bk) gT ht hf bT fun ctv h' tk hx hsz => ?_
    have I1 := I.kept (t' := tk) (h' := h'.push (PySem.W.kla_obj "<lambda>" t.qual t.params t.body t.scope (cloX X t) ((X.mg "__name__").getD .none) c' ctv)) fun b o e => Heap.get?_push_of_some _ (hx b o e)
    exact h _ c' _ ctv H _ hsz I1 (Same.refl H) ⟨Heap.get?_push_size _ rfl, I.hok.fresh hsz, nofr_of I hsz, nob_of I hsz, hco⟩
  | none =>
    refine PySem.W.kla_makeFunction (c := c) (P := T) (ps := ps) (mg := X.mg) (closure_ok hfree) I.ok.glob (I.mod.glob.keeps I.bk) hcode (TB.code.keeps I.bk) gT ht hf TB.gP bT fun c' ctv h' tk hx hge hlt hrec htb => ?_
    obtain ⟨c2, oc, vs, tq, e2, hoc, hd, hv⟩ := hrec
    cases e2
    have hsz : s.heap.objs.size ≤ h'.objs.size := Nat.le_trans hge (Nat.le_of_lt hlt)
    have nC : H c' = none := I.hok.fresh hge
    have nT : T ≠ c' := ne_of_none hTab nC
    have eL : (ps ++ #[rawInt pos.line, rawInt pos.col, .ref c']).toList = ps.toList ++ [rawInt pos.line, rawInt pos.col, .ref c'] := by simp
    have I1 := LamX.inv_table (q := t.qual) (t' := tk) (more := #[rawInt pos.line, rawInt pos.col, .ref c']) (h' := h'.push (PySem.W.kla_obj "<lambda>" t.qual t.params t.body t.scope (cloX X t) ((X.mg "__name__").getD .none) c' ctv)) I hTab
      (fun b o hb e => Heap.get?_push_of_some _ (hx b o hb e)) (Heap.get?_push_of_some _ htb) hge ⟨oc, vs, tq, Heap.get?_push_of_some _ hoc, hd, hv⟩
    have rest : ∀ d o, d ≠ T → H d = some o → upd (upd H T (.tbl (ps ++ #[rawInt pos.line, rawInt pos.col, .ref c']))) c' (LamX.CodeO c' t.qual) d = some o := fun d o h1 e => by
      rw [upd_ne (ne_of_none e nC), upd_ne h1]
      exact e
    have code : ∀ d q, H d = some (LamX.CodeO d q) → upd (upd H T (.tbl (ps ++ #[rawInt pos.line, rawInt pos.col, .ref c']))) c' (LamX.CodeO c' t.qual) d = some (LamX.CodeO d q) := fun d q e => by
      refine rest d _ (fun z => ?_) e
      rw [z, hTab] at e
      exact LamX.codeO_ne ps (Option.some.inj e).symm
    refine h h'.objs.size c' _ ctv _ _ hsz I1 (fun d o e => ?_) ⟨Heap.get?_push_size _ rfl, ?_, nofr_of I hsz, nob_of I hsz, upd_same⟩
    · by_cases hd : d = T
      · subst hd
        rw [hTab] at e
        cases e
        refine ⟨⟨_, by rw [upd_ne nT, upd_same]⟩, fun q hq2 _ => ?_⟩
        have eq : q = t.qual := hu _ hq2 rfl
        subst eq
        refine ⟨_, by rw [upd_ne nT, upd_same], by rw [eL]; exact PySem.TriplesOk_snoc _ _ _ _ ht, fun p' cv hcv => ?_⟩
        rw [eL] at hcv
        rcases LamX.among_app _ ht hcv with z | z
        · obtain ⟨c0, e1, e2⟩ := ha p' cv z
          exact ⟨c0, e1, code _ _ e2⟩
        · exact ⟨c', z, upd_same⟩
      · refine .of (rest d o hd e) fun q ⟨ps', a1, a2, a3⟩ => ⟨ps', rest d _ hd a1, a2, fun p' cv hcv => ?_⟩
        obtain ⟨c0, e1, e2⟩ := a3 p' cv hcv
        exact ⟨c0, e1, code _ _ e2⟩
    · have n1 : h'.objs.size ≠ c' := Nat.ne_of_gt hlt
      have n2 : h'.objs.size ≠ T := Nat.ne_of_gt (Nat.lt_of_lt_of_le (Heap.lt_size gT) hsz)
      rw [upd_ne n1, upd_ne n2]
      exact I.hok.fresh hsz
end
end PD
set_option maxHeartbeats 2000000
/-! PC 6: a lambda handed to a def as its last argument. -/
namespace PD
open PySem PySem.Spec PyProof.Rows L2 PySem.W
/-- arguments, the last a lambda -/
structure PAL (X : Cx) (es : List Expr) (t : LamTxt) (g : L2.St → Hp → (List V → Addr → Hp → Prop) → Prop) : Prop where
  run : ∀ (pos : Pos) (pins : List (Addr × Obj)) (s : Shared) (σ : L2.St) (H : Hp) (Q : List V → Addr → Hp → Prop), Inv X pins σ H s → g σ H Q →
    wpAny (model X.prog X.w) X.A (spliced (backTo pos (starEach es X.env))) (fun us s' => ∃ vs f c' pm ctv H', Inv X pins σ H' s' ∧ LamAt X t f c' pm ctv H' s' ∧ Vals (vs ++ [.ref f]) us ∧ Q vs c' H') X.xe s
def tAL (K : PySem.W.Frag) (Γ : List Kd) (A : Addr → Prop) (B : Hp) (E : XK) (fls : List Fl) (m : ML) : L2.St → Hp → (List V → Addr → Hp → Prop) → Prop := fun σ H Q => ∃ O env, Sim K Γ A B O H env σ ∧ match m env with
  | .ok xs => ∀ vs c' H', Same H H' → VRels K A B O H' fls vs xs → Q vs c' H'
  | .exc c x => XOk K A B E c x
  | .bad => False
section
variable {X : Cx} {Γ : List Kd} {A : Addr → Prop} {B : Hp} {E : XK} {t : LamTxt} {lpos : Pos}
theorem al_lam (M : Mk X.base X.mg t.qual X.env.code) (hq : t.qual = X.env.qual ++ "<lambda>") (hdef : defaultsOf t.params X.env = ([], [])) (hfree : t.scope.names.all (fun y => !decide (y.2 = .free) || decide (X.env.scope.names.lookup y.1 = some .cell)) = true)
    (hs : starEach [.Lambda t.params t.body t.scope lpos] X.env = (false, eval (.Lambda t.params t.body t.scope lpos) X.env) :: starEach [] X.env := by rfl) : PAL X [.Lambda t.params t.body t.scope lpos] t (tAL X.K Γ A B E [] mNil) := by
  refine ⟨fun pos pins s σ H Q I ⟨O, env, m, q⟩ => ?_⟩
  have hf : ∀ y ∈ t.scope.names, y.2 = .free → ∃ c, X.env.cells.lookup y.1 = some c := fun y hy e => by
    have z := List.all_eq_true.mp hfree y hy
    rw [Bool.or_eq_true, Bool.not_eq_true', decide_eq_false_iff_not, decide_eq_true_eq] at z
    exact I.ok.has _ (.inl (z.resolve_left (fun n => n e)))
  rw [hs]
  show wpAny _ _ (spliced ((false, eval _ X.env) :: backTo pos (starEach [] X.env))) _ _ s
  refine Calls.spliced_cons (made I m.cor.tabs M hq hdef hf fun f c' pm ctv H1 s1 _ I1 sm L => ?_)
  exact Calls.spliced_nil ⟨[], f, c', pm, ctv, H1, I1, L, .cons rfl .nil, q [] c' H1 sm .nil⟩
theorem al_cons {e : Expr} {es : List Expr} {fl : Fl} {fls : List Fl} {a : ME} {r : ML} (ha : PE X e (tE X.K Γ A B E fl a)) (hr : PAL X es t (tAL X.K Γ A B E fls r)) (hs : starEach (e :: es) X.env = (false, eval e X.env) :: starEach es X.env := by rfl) :
    PAL X (e :: es) t (tAL X.K Γ A B E (fl :: fls) (mCons a r)) := by
  refine ⟨fun pos pins s σ H Q I ⟨O, env, m, q⟩ => ?_⟩
  rw [hs]
  show wpAny _ _ (spliced ((false, eval e X.env) :: backTo pos (starEach es X.env))) _ _ s
  refine Calls.spliced_cons (thn (ha.run pins s σ H (fun v H1 => Same H H1 ∧ ∃ x, a env = .ok x ∧ VRel X.K fl A B O H1 v x) I ⟨O, env, m, ?_⟩) fun u s1 ⟨v, H1, I1, r1, s1', x, e1, q1⟩ => ?_)
  · unfold mCons at q
    cases e1 : a env with
    | bad => rw [e1] at q; exact q
    | exc c x => rw [e1] at q; exact q
    | ok x => exact fun v H1 s1 r1 => ⟨s1, x, rfl, r1⟩
  · unfold mCons at q
    rw [e1] at q
    refine thn (hr.run pos pins s1 σ H1 (fun vs c' H2 => Q (v :: vs) c' H2) I1 ⟨O, env, m.up s1', ?_⟩) fun us s2 ⟨vs, f, c', pm, ctv, H2, I2, L, r2, q2⟩ => ⟨v :: vs, f, c', pm, ctv, H2, I2, L, .cons r1 r2, q2⟩
    cases e2 : r env with
    | bad => simp only [Res.bind, e2] at q
    | exc c y => simp only [Res.bind, e2] at q; exact q
    | ok xs =>
      simp only [Res.bind, e2] at q
      exact fun vs c' H2 s2 r2 => q (v :: vs) c' H2 (s1'.trans s2) (.cons (q1.same s2) r2)

/-! ### what it captures -/
def getAll : List Nat → En → Option (List PyData)
  | [], _ => some []
  | i :: is, env => match env[i]?, getAll is env with
    | some x, some xs => some (x :: xs)
    | _, _ => none
def pureR : Res PyData → Res PyData
  | .ok x => match pl x with
    | true => .ok x
    | false => .bad
  | .exc c x => match pl x with
    | true => .exc c x
    | false => .bad
  | .bad => .bad
def mCallL (f : List PyData → Res PyData) (ml : ML) (j : Int) (idx : List Nat) : ME := fun env => (ml env).bind fun xs => (Res.opt (getAll idx env)).bind fun ds => pureR (f (xs ++ [.dict [(.dict [], .tuple (.int j :: ds))]]))
theorem caps_get {pins : List (Addr × Obj)} {σ : L2.St} {H : Hp} {s : Shared} {O : Ow} {env : En} {S : Addr → Prop} {L : List (Str × Addr)} (I : Inv X pins σ H s) (m : Sim X.K Γ A B O H env σ) (hS : ∀ a, S a → sset .p A O a) :
    ∀ (cl : List (Str × Addr)) (idx : List Nat) (ds : List PyData), (∀ y ∈ cl, y ∈ L) → (∀ y ∈ cl, X.env.cells.lookup y.1 = some y.2 ∧ X.env.scope.names.lookup y.1 = some .cell) → idx.map (fun i => X.N[i]?) = cl.map (fun y => some y.1) → (∀ i ∈ idx, Γ[i]? = some .d) → getAll idx env = some ds →
      ∃ vs, Caps S (lend H s.heap L) cl vs ∧ DvAll X.K H S vs ds
  | [], [], ds, _, _, _, _, e => by
    cases e
    exact ⟨[], trivial, .nil⟩
  | y :: cl, [], _, _, _, e, _, _ => by simp at e
  | [], _ :: _, _, _, _, e, _, _ => by simp at e
  | y :: cl, i :: idx, ds, hL, hc, hN, hΓ, e => by
    rw [List.map_cons, List.map_cons] at hN
    injection hN with hN1 hN2
    unfold getAll at e
    cases e1 : env[i]? with
    | none => rw [e1] at e; cases e
    | some x =>
      cases e2 : getAll idx env with
      | none => rw [e1, e2] at e; cases e
      | some xs =>
        rw [e1, e2] at e
        cases e
        obtain ⟨vs, c1, d1⟩ := caps_get I m hS cl idx xs (fun y hy => hL y (List.mem_cons_of_mem _ hy)) (fun y hy => hc y (List.mem_cons_of_mem _ hy)) hN2 (fun i hi => hΓ i (List.mem_cons_of_mem _ hi)) e2
        obtain ⟨v, x', h1, h2, h3⟩ := m.slot i .d (hΓ i List.mem_cons_self) (by simp)
        rw [e1] at h2
        cases h2
        obtain ⟨mm, _, loc⟩ := I.loc
        obtain ⟨hcy, hky⟩ := hc y List.mem_cons_self
        obtain ⟨u, ru, lk⟩ := loc i y.1 v hN1 h1 (.inr (.inl hky))
        have hcell : s.heap.IsCell y.2 (some u) := by
          rcases lk with ⟨z, _⟩ | ⟨_, c, hc', z⟩
          · have z : X.env.scope.names.lookup y.1 = some .local := z
            rw [hky] at z
            cases z
          · rw [hcy] at hc'
            cases hc'
            exact z
        obtain ⟨o, ho, hd⟩ := hcell
        have n : H y.2 = none := I.freeC _ _ hcy
        refine ⟨v :: vs, ⟨⟨fun z => ?_, o, u, lend_in (List.mem_map.mpr ⟨y, hL y List.mem_cons_self, rfl⟩) ho, hd, ru⟩, c1⟩, .cons (h3.less hS) d1⟩
        rcases hS _ z with z | z
        · exact m.cor.an n z
        · exact m.cor.on n z
end
end PD
set_option maxHeartbeats 2000000
/-! PC 7: a def is called with a lambda as its last argument. -/
namespace PD
open PySem PySem.Spec PyProof.Rows L2 PySem.W
theorem nodup_snd {cells : List (Str × Addr)} (inj : ∀ x y c, cells.lookup x = some c → cells.lookup y = some c → x = y) : ∀ {cl : List (Str × Addr)}, (∀ y ∈ cl, cells.lookup y.1 = some y.2) → (cl.map (·.1)).Nodup → (cl.map (·.2)).Nodup
  | [], _, _ => List.nodup_nil
  | y :: cl, h, n => by
    rw [List.map_cons, List.nodup_cons] at n ⊢
    refine ⟨fun z => ?_, nodup_snd inj (fun y hy => h y (List.mem_cons_of_mem _ hy)) n.2⟩
    obtain ⟨q, hq, e⟩ := List.mem_map.mp z
    have e1 : q.1 = y.1 := inj _ _ y.2 (by rw [← e]; exact h q (List.mem_cons_of_mem _ hq)) (h y List.mem_cons_self)
    exact n.1 (List.mem_map.mpr ⟨q, hq, e1⟩)
section
variable {X : Cx} {Γ : List Kd} {A : Addr → Prop} {B : Hp} {E : XK} {t : LamTxt} {pins : List (Addr × Obj)} {σ : L2.St} {H : Hp} {s : Shared} {f c' : Addr} {pm ctv : Value}
theorem clo_cells (I : Inv X pins σ H s) (hfree : ∀ y ∈ t.scope.names, y.2 = .free → X.env.scope.names.lookup y.1 = some .cell) : ∀ y ∈ cloX X t, X.env.cells.lookup y.1 = some y.2 ∧ X.env.scope.names.lookup y.1 = some .cell := fun y hy => by
  have hy' : (y.1, y.2) ∈ cloX X t := hy
  rcases cloFrom_mem hy' with z | ⟨h1, h2⟩
  · cases z
  · have k := hfree _ h1 rfl
    obtain ⟨c, hc⟩ := I.ok.has _ (.inl k)
    rw [hc] at h2
    exact ⟨by rw [hc, h2]; rfl, k⟩
/-- the lambda and the cells that it holds -/
abbrev lentOf (X : Cx) (t : LamTxt) (f : Addr) : List (Str × Addr) := (("" : Str), f) :: cloX X t
theorem lent_ok (I : Inv X pins σ H s) (L : LamAt X t f c' pm ctv H s) (hc : ∀ y ∈ cloX X t, X.env.cells.lookup y.1 = some y.2) : Lent H s.heap (lentOf X t f) := by
  refine ⟨fun c hcm => ?_, fun c hcm => ?_⟩
  · rcases List.mem_cons.mp (show c ∈ f :: (cloX X t).map (·.2) from hcm) with rfl | h
    · exact L.free
    · obtain ⟨y, hy, rfl⟩ := List.mem_map.mp h
      exact I.freeC _ _ (hc y hy)
  · rcases List.mem_cons.mp (show c ∈ f :: (cloX X t).map (·.2) from hcm) with rfl | h
    · exact ⟨_, L.at_, fun vs z => by cases z⟩
    · obtain ⟨y, hy, rfl⟩ := List.mem_map.mp h
      obtain ⟨v, o, ho, hd⟩ := I.cell _ _ (hc y hy)
      exact ⟨o, ho, fun vs z => by rw [hd] at z; cases z⟩
theorem lent_fr (I : Inv X pins σ H s) (L : LamAt X t f c' pm ctv H s) (hfn : ∀ y, X.fn y = true) (hc : ∀ y ∈ cloX X t, X.env.cells.lookup y.1 = some y.2) : ∀ b ∈ frs X.stack, b ∉ (lentOf X t f).map (·.2) := fun b hb z => by
  rcases List.mem_cons.mp (show b ∈ f :: (cloX X t).map (·.2) from z) with rfl | h
  · exact L.nofr hb
  · obtain ⟨y, hy, rfl⟩ := List.mem_map.mp h
    have lk := hc y hy
    rcases List.mem_cons.mp (I.stkSub _ hb) with e | e
    · exact I.cne _ _ lk e
    · obtain ⟨_, o, ho, _⟩ := I.ok.funs.mem e
      exact absurd (Nat.lt_of_lt_of_le (Heap.lt_size ho) (I.ok.cab _ _ (hfn _) lk)) (Nat.lt_irrefl _)
theorem lent_env (I : Inv X pins σ H s) (L : LamAt X t f c' pm ctv H s) (hfn : ∀ y, X.fn y = true) (hc : ∀ y ∈ cloX X t, X.env.cells.lookup y.1 = some y.2) : Env0 X.prog X.w X.K X.mg X.base X.A X.stack s (lend H s.heap (lentOf X t f)) := by
  refine ⟨I.ok.frames, I.ok.mod, fun b o e => ⟨(I.bs b o e).1, ?_⟩, Nat.le_trans I.ok.bsz I.sz, I.stack, fun b hb => ?_, lend_hok (lent_ok I L hc) I.hok, I.bare⟩
  · rw [lend_out fun z => ?_]
    · exact (I.bs b o e).2
    · rcases List.mem_cons.mp (show b ∈ f :: (cloX X t).map (·.2) from z) with rfl | h
      · rw [L.nob] at e
        cases e
      · obtain ⟨y, hy, rfl⟩ := List.mem_map.mp h
        exact absurd (Nat.lt_of_lt_of_le (Heap.lt_size e) (Nat.le_trans I.ok.bsz (I.ok.cab _ _ (hfn _) (hc y hy)))) (Nat.lt_irrefl _)
  · rw [lend_out (lent_fr I L hfn hc b hb)]
    exact I.stkFree b hb
theorem rd_code {H : Hp} {a c' : Addr} {q : Str} {xs : List V} {g : List V → HO} (hg : g = .lst ∨ g = .tup) (hc : H c' = some (LamX.CodeO c' q)) (h : Rd H a (g xs)) : a ≠ c' := fun z => by
  subst z
  unfold LamX.CodeO at hc
  rcases h with h | ⟨o, h⟩
  · rcases hg with rfl | rfl <;> (rw [hc] at h; cases h)
  · rw [hc] at h
    cases h
theorem j_callL {x : Str} {p pos : Pos} {e : Expr} {es : List Expr} {fls : List Fl} {ml : ML} {fn : List PyData → Res PyData} {kf nf k : Nat} {j : Int} {idx : List Nat} (F : Fn X.prog X.w X.K X.mg X.base kf nf .p x fn) (z : Cz X E k) (hk : Nat.ble kf k = true) (hj : Fl.joins fls = .p) (hn : Nat.beq (fls.length + 1) nf = true)
    (hi : lams[j.toNat]? = some t) (hcn : freeOf t.scope.names = t.caps) (hnd : t.caps.Nodup) (hfree : t.scope.names.all (fun y => !decide (y.2 = .free) || decide (X.env.scope.names.lookup y.1 = some .cell)) = true) (hN : idx.map (fun i => X.N[i]?) = t.caps.map some) (hΓ : ∀ i ∈ idx, Γ[i]? = some .d) (hfn : ∀ y, X.fn y = true)
    (ha : PAL X (e :: es) t (tAL X.K Γ A B E fls ml)) (hg : Gl X x := by rfl) (hdb : (x == ("__debug__" : Str)) = false := by decide) (he : starEach (e :: es) X.env = (false, eval e X.env) :: starEach es X.env := by rfl) (hpl : (backTo pos (starEach es X.env)).any (·.1) = false := by rfl) :
    PE X (.Call (.Name x p) (e :: es) [] pos) (tE X.K Γ A B E .p (mCallL fn ml j idx)) := by
  obtain ⟨fa, fd, ps, F, hm, hkp, hb⟩ := F.ex
  refine ⟨fun pins s σ H Q I ⟨O, env, si, q⟩ => ?_⟩
  refine wpAny_Call_Name_kw (ld_glob I hg hm ?_ hdb)
  refine PySem.W.callWith_K (h₀ := X.base) I.ok.mod.kin hkp (thn (ha.run pos pins s σ H (fun vs c' H1 => Same H H1 ∧ ∃ xs, ml env = .ok xs ∧ VRels X.K A B O H1 fls vs xs) I ⟨O, env, si, ?_⟩) fun us s2 ⟨vs, f, c', pm, ctv, H2, I2, L, r2, sm2, xs, e1, rs⟩ => ⟨I2.kIn, ?_⟩) he hpl
  · unfold mCallL at q
    cases e1 : ml env with
    | bad => rw [e1] at q; exact q
    | exc c x => rw [e1] at q; exact q
    | ok xs => exact fun vs c' H1 s1 r1 => ⟨s1, xs, rfl, r1⟩
  · unfold mCallL at q
    rw [e1] at q
    simp only [Res.bind] at q
    cases e2 : getAll idx env with
    | none => simp only [e2, Res.opt] at q
    | some ds =>
      simp only [e2, Res.opt] at q
      have si2 := si.up sm2
      have c2 := si2.cor
      have hf : ∀ y ∈ t.scope.names, y.2 = .free → X.env.scope.names.lookup y.1 = some .cell := fun y hy e => by
        have z := List.all_eq_true.mp hfree y hy
        rw [Bool.or_eq_true, Bool.not_eq_true', decide_eq_false_iff_not, decide_eq_true_eq] at z
        exact z.resolve_left (fun n => n e)
      have hcc := clo_cells I2 hf
      have hc := fun y hy => (hcc y hy).1
      have l := lent_ok I2 L hc
      have ecl : (cloX X t).map (·.1) = t.caps := by rw [clo_names, List.map_nil, List.append_nil, hcn]
      have hN2 : idx.map (fun i => X.N[i]?) = (cloX X t).map (fun y => some y.1) := by
        rw [hN, ← ecl, List.map_map]
        rfl
      have cOut : lend H2 s2.heap (lentOf X t f) c' = some (LamX.CodeO c' t.qual) := lend_le l _ _ L.code
      obtain ⟨cs, hcaps, hcd⟩ := caps_get (S := fun a => sset .p A O a ∧ a ≠ c') (L := lentOf X t f) I2 si2 (fun a z => z.1) (cloX X t) idx ds (fun y hy => List.mem_cons_of_mem _ hy) hcc hN2 hΓ e2
      have nS : ∀ a, H2 a = none → ¬ (sset .p A O a ∧ a ≠ c') := fun a n z => z.1.elim (c2.an n) (c2.on n)
      have hclo : Clo (fun a => sset .p A O a ∧ a ≠ c') (lend H2 s2.heap (lentOf X t f)) f j.toNat cs :=
        ⟨t, cloX X t, c', pm, ctv, hi, ⟨ecl, nodup_snd I2.ok.inj hc (by rw [ecl]; exact hnd)⟩, ⟨nS f L.free, lend_in List.mem_cons_self L.at_⟩, ⟨fun z => z.2 rfl, cOut⟩, hcaps⟩
      have ss := lend_same (h := s2.heap) l
      have da : DvAll X.K H2 (sset .p A O) vs xs := by
        have w := rs.all c2
        rw [hj] at w
        exact w
      have dall : DvAll X.K (lend H2 s2.heap (lentOf X t f)) (fun a => sset .p A O a ∧ a ≠ c') (vs ++ [.ref f]) (xs ++ [.dict [(.dict [], .tuple (.int j :: ds))]]) :=
        ((da.less fun a z => z.1).same ss).append (.cons (.clo hclo (hcd.same ss)) .nil)
      have len : (vs ++ [V.ref f]).length = nf := by
        rw [List.length_append, rs.lenF]
        exact Nat.eq_of_beq_eq_true hn
      have fin : ∀ {v : V} {x : PyData} {H3 : Hp}, Same (lend H2 s2.heap (lentOf X t f)) H3 → pl x = true → Dv X.K H3 (fun a => sset .p A O a ∧ a ≠ c') v x → Dv X.K (offC H3 (lentOf X t f)) (sset .p A O) v x := fun {v x H3} sm hp d => by
        have CI := back_cells0 l sm
        have hc3 : H3 c' = some (LamX.CodeO c' t.qual) := sm c' _ cOut
        exact Dv.move2 (fun a xs n r => ⟨fun z => n ⟨z, rd_code (.inl rfl) hc3 r⟩, rd_off CI (.inl rfl) r⟩) (fun a xs n r => ⟨fun z => n ⟨z, rd_code (.inr rfl) hc3 r⟩, rd_off CI (.inr rfl) r⟩) x hp d
      have hsp : spP X.K nf .p fn (vs ++ [.ref f] ++ []) (lend H2 s2.heap (lentOf X t f)) (fun v H3 => Same (lend H2 s2.heap (lentOf X t f)) H3 ∧ ∃ x, fn (xs ++ [.dict [(.dict [], .tuple (.int j :: ds))]]) = .ok x ∧ Dv X.K H3 (fun a => sset .p A O a ∧ a ≠ c') v x) (lendE H2 s2.heap (lentOf X t f) E) := by
        rw [List.append_nil]
        refine ⟨len, tabs_same ss c2.tabs, fun a => sset .p A O a ∧ a ≠ c', _, fun a w => same_some ss (w.1.elim (c2.an' a) fun ⟨i, e⟩ => c2.oh i a e), dall, ?_⟩
        cases e3 : fn (xs ++ [.dict [(.dict [], .tuple (.int j :: ds))]]) with
        | bad => rw [e3] at q; exact q
        | ok x => exact fun v H3 sm r => ⟨sm, x, rfl, r⟩
        | exc c x =>
          rw [e3] at q
          unfold pureR at q
          cases hp : pl x with
          | false => simp only [hp] at q
          | true =>
            simp only [hp] at q
            intro H3 d v sm hd e4 dv
            have CI := back_cells0 l sm
            have nd : d ∉ (lentOf X t f).map (·.2) := fun w => by
              obtain ⟨o, e5, _⟩ := l.at_ d w
              rw [lend_in w e5] at hd
              cases hd
            have hd2 : H2 d = none := by
              rw [lend_out nd] at hd
              exact hd
            exact ⟨sm, q _ d v (c2.same.trans (back_same l sm)) (c2.bn hd2) (by rw [offC_out nd]; exact e4) ((fin sm hp dv).less fun a w => .inl w)⟩
      have hr2 : Vals (vs ++ [V.ref f] ++ []) (us ++ []) := by
        rw [List.append_nil, List.append_nil]
        exact r2
      have hl : (us ++ []).length = ps.length := by rw [← hr2.length]; exact F.len _ _ _ _ hsp
      refine wpAny_call (codeAny_mono (F.run X.A X.stack s2 _ ⟨us, []⟩ (us ++ []) (vs ++ [V.ref f] ++ []) _ _ (z.room.mono (Nat.le_of_ble_eq_true hk)) (lent_env I2 L hfn hc) (hb s2 us I2.kIn hl) hr2 hsp) fun r s' hq => ?_)
      cases r with
      | error er => exact z.pass pins σ H2 s2 er s' I2 (back_cx l hq)
      | ok fl =>
        cases fl with
        | ret u =>
          obtain ⟨v, H3, os, bare, un, hok, rv, sm, x, e3, dv⟩ := (show CE X.stack X.prog X.w (lend H2 s2.heap (lentOf X t f)) s2 _ u s' from hq)
          rw [e3] at q
          unfold pureR at q
          cases hp : pl x with
          | false => simp only [hp] at q
          | true =>
            simp only [hp] at q
            exact I2.after ⟨v, offC H3 (lentOf X t f), os, bare, back_un l sm hok (lent_fr I2 L hfn hc) un, hok_off (back_cells l sm hok) hok, rv, q v _ (sm2.trans (back_same l sm)) (fin sm hp dv)⟩
        | next => exact False.elim hq
        | brk => exact False.elim hq
        | cont => exact False.elim hq
end
end PD
set_option maxHeartbeats 2000000
/-! PD 19: comparisons as tests. -/
namespace PD
open PySem PySem.Spec PyProof.Rows L2
section
variable {X : Cx} {Γ : List Kd} {A : Addr → Prop} {B : Hp} {E : XK} {O : Ow} {e a b : Expr} {fa fb fl : Fl} {ma mb : ME} {k : Nat} {pos : Pos} {σ : L2.St} {H : Hp}
theorem test_imp {m : ME} {Q : Bool → Hp → Prop} (w : tT X.K Γ A B E (mTest m asB) σ H Q) : tE X.K Γ A B E .p m σ H (fun x H' => ∃ k, x = .bl k ∧ Q k H') := by
  obtain ⟨O, env, si, q⟩ := w
  refine ⟨O, env, si, ?_⟩
  unfold mTest at q
  cases e1 : m env with
  | bad => rw [e1] at q; exact q
  | exc c x => rw [e1] at q; exact q
  | ok x =>
    rw [e1] at q
    intro v H1 s1 r1
    cases x with
    | bool b =>
      cases r1
      exact ⟨b, rfl, q H1 s1⟩
    | _ => exact q.elim
theorem imp2 {r : R2} {f : PyData → PyData → Option PyData} {fa fb fl : Fl} {a b : ME} {Q : VK} (o : Op2 X.K r f fa fb fl) (w : tE X.K Γ A B E fl (mOp2 f a b) σ H Q) : tOp r (tE X.K Γ A B E fa a) (tE X.K Γ A B E fb b) σ H Q := by
  obtain ⟨O, env, m, q⟩ := w
  refine ⟨O, env, m, ?_⟩
  unfold mOp2 at q
  cases e1 : a env with
  | bad => rw [e1] at q; exact q
  | exc c x => rw [e1] at q; exact q
  | ok x =>
    rw [e1] at q
    intro v H1 s1 r1
    refine ⟨O, env, m.up s1, ?_⟩
    cases e2 : b env with
    | bad => simp only [Res.bind, e2] at q
    | exc c y => simp only [Res.bind, e2] at q; exact q
    | ok y =>
      intro u H2 s2 r2
      cases e3 : f x y with
      | none => simp only [Res.bind, e2, Res.opt, e3] at q
      | some z =>
        simp only [Res.bind, e2, Res.opt, e3] at q
        exact o A B H2 O v u x y z Q (m.cor.up (s1.trans s2)) (r1.same s2) r2 e3 fun v' H' s3 r3 => q v' H' ((s1.trans s2).trans s3) r3
theorem imp1 {r : V → Hp → VK → Prop} {f : PyData → Option PyData} {fa fl : Fl} {a : ME} {Q : VK} (o : Op1 X.K r f fa fl) (w : tE X.K Γ A B E fl (mOp1 f a) σ H Q) : tUn r (tE X.K Γ A B E fa a) σ H Q := by
  obtain ⟨O, env, m, q⟩ := w
  refine ⟨O, env, m, ?_⟩
  unfold mOp1 at q
  cases e1 : a env with
  | bad => rw [e1] at q; exact q
  | exc c x => rw [e1] at q; exact q
  | ok x =>
    rw [e1] at q
    intro v H1 s1 r1
    cases e3 : f x with
    | none => simp only [Res.bind, Res.opt, e3] at q
    | some z =>
      simp only [Res.bind, Res.opt, e3] at q
      exact o A B H1 O v x z Q (m.cor.up s1) r1 e3 fun v' H' s3 r3 => q v' H' (s1.trans s3) r3
theorem impC {r r' : R2} {op op' : CmpOp} {f g : PyData → PyData → Option PyData} {fc : Fl} {mc : ME} {Q : VK} (o : CmpOk X op f) (o' : CmpOk X op' g) (w : tE X.K Γ A B E .p (mChain (gd f) (gd g) ma mb mc) σ H Q) : tChain (rSc X.K f) (rSc X.K g) (tE X.K Γ A B E fa ma) (tE X.K Γ A B E fb mb) (tE X.K Γ A B E fc mc) σ H Q := by
  obtain ⟨O, env, m, q⟩ := w
  refine ⟨O, env, m, ?_⟩
  unfold mChain at q
  cases e1 : ma env with
  | bad => rw [e1] at q; exact q
  | exc c x => rw [e1] at q; exact q
  | ok x =>
    rw [e1] at q
    intro v H1 s1 r1
    refine ⟨O, env, m.up s1, ?_⟩
    cases e2 : mb env with
    | bad => simp only [Res.bind, e2] at q
    | exc c y => simp only [Res.bind, e2] at q; exact q
    | ok y =>
      intro u H2 s2 r2
      cases e3 : gd f x y with
      | none => simp only [Res.bind, e2, Res.opt, e3] at q
      | some z =>
        simp only [Res.bind, e2, Res.opt, e3] at q
        obtain ⟨p1, p2, e3⟩ := gd_some e3
        obtain ⟨w, hw⟩ := o.sc x y z e3
        have c2 := m.cor.up (s1.trans s2)
        refine ⟨x, y, z, w, ((r1.same s2).any c2).dpl p1, (r2.any c2).dpl p2, e3, hw, ?_⟩
        cases z with
        | bool kk =>
          cases hw
          refine ⟨kk, rfl, ?_⟩
          cases kk with
          | false =>
            simp only [asB] at q
            exact q _ H2 (s1.trans s2) (.bl false)
          | true =>
            simp only [asB] at q
            refine ⟨O, env, m.up (s1.trans s2), ?_⟩
            cases e4 : mc env with
            | bad => simp only [e4] at q
            | exc c y => simp only [e4] at q; exact q
            | ok t =>
              intro u3 H3 s3 r3
              cases e5 : gd g y t with
              | none => simp only [e4, e5] at q
              | some z2 =>
                simp only [e4, e5] at q
                obtain ⟨p3, p4, e5⟩ := gd_some e5
                obtain ⟨w2, hw2⟩ := o'.sc y t z2 e5
                have c3 := m.cor.up ((s1.trans s2).trans s3)
                exact ⟨y, t, z2, w2, ((r2.same s3).any c3).dpl p3, (r3.any c3).dpl p4, e5, hw2, q w2 H3 ((s1.trans s2).trans s3) (scv_dv hw2)⟩
        | _ => simp only [asB] at q

theorem k_op2 {r : R2} {f : PyData → PyData → Option PyData} (o : Op2 X.K r f fa fb .p) (h : PT X e (tTest (tOp r (tE X.K Γ A B E fa ma) (tE X.K Γ A B E fb mb)))) : PT X e (tT X.K Γ A B E (mTest (mOp2 f ma mb) asB)) :=
  ⟨fun pins s σ H Q I w => h.run pins s σ H Q I (imp2 o (test_imp w))⟩
theorem k_op1 {r : V → Hp → VK → Prop} {f : PyData → Option PyData} (o : Op1 X.K r f fa .p) (h : PT X e (tTest (tUn r (tE X.K Γ A B E fa ma)))) : PT X e (tT X.K Γ A B E (mTest (mOp1 f ma) asB)) :=
  ⟨fun pins s σ H Q I w => h.run pins s σ H Q I (imp1 o (test_imp w))⟩
theorem k_eq (z : Cz X E k) (ha : PE X a (tE X.K Γ A B E fa ma)) (hb : PE X b (tE X.K Γ A B E fb mb)) : PT X (.Compare a [.Eq] [b] pos) (tT X.K Γ A B E (mTest (mOp2 (gd fEq) ma mb) asB)) := k_op2 (op2_sc hs_eq) (pt_cmpR (o_eq z.hu) ha hb (nomark _))
theorem k_ne (z : Cz X E k) (ha : PE X a (tE X.K Γ A B E fa ma)) (hb : PE X b (tE X.K Γ A B E fb mb)) : PT X (.Compare a [.NotEq] [b] pos) (tT X.K Γ A B E (mTest (mOp2 (gd fNe) ma mb) asB)) := k_op2 (op2_sc hs_ne) (pt_cmpR (o_ne z.hu) ha hb (nomark _))
theorem k_lt (z : Cz X E k) (ha : PE X a (tE X.K Γ A B E fa ma)) (hb : PE X b (tE X.K Γ A B E fb mb)) : PT X (.Compare a [.Lt] [b] pos) (tT X.K Γ A B E (mTest (mOp2 (gd fLt) ma mb) asB)) := k_op2 (op2_sc hs_lt) (pt_cmpR (o_lt z.hu) ha hb (nomark _))
theorem k_gt (z : Cz X E k) (ha : PE X a (tE X.K Γ A B E fa ma)) (hb : PE X b (tE X.K Γ A B E fb mb)) : PT X (.Compare a [.Gt] [b] pos) (tT X.K Γ A B E (mTest (mOp2 (gd fGt) ma mb) asB)) := k_op2 (op2_sc hs_gt) (pt_cmpR (o_gt z.hu) ha hb (nomark _))
theorem k_le (z : Cz X E k) (ha : PE X a (tE X.K Γ A B E fa ma)) (hb : PE X b (tE X.K Γ A B E fb mb)) : PT X (.Compare a [.LtE] [b] pos) (tT X.K Γ A B E (mTest (mOp2 (gd fLe) ma mb) asB)) := k_op2 (op2_sc hs_le) (pt_cmpR (o_le z.hu) ha hb (nomark _))
theorem k_ge (z : Cz X E k) (ha : PE X a (tE X.K Γ A B E fa ma)) (hb : PE X b (tE X.K Γ A B E fb mb)) : PT X (.Compare a [.GtE] [b] pos) (tT X.K Γ A B E (mTest (mOp2 (gd fGe) ma mb) asB)) := k_op2 (op2_sc hs_ge) (pt_cmpR (o_ge z.hu) ha hb (nomark _))
theorem k_in (z : Cz X E k) (ha : PE X a (tE X.K Γ A B E fa ma)) (hb : PE X b (tE X.K Γ A B E fb mb)) (hm : behindInMarks .In b = false := by rfl) : PT X (.Compare a [.In] [b] pos) (tT X.K Γ A B E (mTest (mOp2 (gd fIn) ma mb) asB)) := k_op2 (op2_sc hs_in) (pt_cmpR (o_in z.hu) ha hb hm)
theorem k_notIn (z : Cz X E k) (ha : PE X a (tE X.K Γ A B E fa ma)) (hb : PE X b (tE X.K Γ A B E fb mb)) (hm : behindInMarks .NotIn b = false := by rfl) : PT X (.Compare a [.NotIn] [b] pos) (tT X.K Γ A B E (mTest (mOp2 (gd fNotIn) ma mb) asB)) := k_op2 (op2_sc hs_notIn) (pt_cmpR (o_notIn z.hu) ha hb hm)
theorem k_chain {op op' : CmpOp} {f g : PyData → PyData → Option PyData} {c : Expr} {fc : Fl} {mc : ME} (o : CmpOk X op f) (o' : CmpOk X op' g) (ha : PE X a (tE X.K Γ A B E fa ma)) (hb : PE X b (tE X.K Γ A B E fb mb)) (hc : PE X c (tE X.K Γ A B E fc mc))
    (hm : lastMarks [op, op'] [b, c] = false := by with_unfolding_all rfl) : PT X (.Compare a [op, op'] [b, c] pos) (tT X.K Γ A B E (mTest (mChain (gd f) (gd g) ma mb mc) asB)) :=
  ⟨fun pins s σ H Q I w => (pt_chain o.rule o'.rule ha hb hc hm).run pins s σ H Q I (impC (r := rSc X.K f) (r' := rSc X.K g) o o' (test_imp w))⟩
theorem k_isN {j : Nat} {p2 : Pos} (ha : PE X a (tE X.K Γ A B E fa ma)) : PT X (.Compare a [.Is] [.Constant .none j p2] pos) (tT X.K Γ A B E (mTest (mOp1 fIsN ma) asB)) := by
  refine k_op1 (r := fun x H Q => Q (.bl (decide (x = .non))) H) ?_ (pt_cmp (pc_isN ha) rfl)
  intro A B H O v x z Q c r e q
  cases e
  rw [non_iff (r.any c)]
  exact q _ H (Same.refl H) (.bl _)
theorem k_notN {j : Nat} {p2 : Pos} (ha : PE X a (tE X.K Γ A B E fa ma)) : PT X (.Compare a [.IsNot] [.Constant .none j p2] pos) (tT X.K Γ A B E (mTest (mOp1 fNotN ma) asB)) := by
  refine k_op1 (r := fun x H Q => Q (.bl (!decide (x = .non))) H) ?_ (pt_cmp (pc_notN ha) rfl)
  intro A B H O v x z Q c r e q
  cases e
  rw [non_iff (r.any c)]
  exact q _ H (Same.refl H) (.bl _)
end
end PD
set_option maxHeartbeats 2000000
/-! PG 0: what the printed derivations lean on. -/
namespace PD
open PySem PySem.Spec PyProof.Rows L2 PySem.W
theorem bt_bool : bootBuiltins "bool" = some (.type "bool") := by decide +kernel
theorem bt_str : bootBuiltins "str" = some (.type "str") := by decide +kernel
def runFnF (m : MS) (l : Nat) : List PyData → Res PyData := fun xs => match m (xs ++ List.replicate l .none) with
  | .ok (.ret x) => .ok x
  | .exc c x => .exc c x
  | _ => .bad
section
variable {X : Cx} {Γ : List Kd} {A : Addr → Prop} {B : Hp} {E : XK} {x : Str} {pos : Pos}
def fAddL : PyData → PyData → Option PyData
  | .list xs, .list ys => match Nat.ble (xs.length + ys.length) 16777216 with
    | true => some (.list (xs ++ ys))
    | false => none
  | _, _ => none
theorem op2_addL {K : PySem.W.Frag} {fa fb : Fl} (hfa : fa.el = .p) (hfb : fb.el = .p) : Op2 K (rAddAll K) fAddL fa fb .f := by
  intro A B H O v u x y z Q c rx ry e q
  unfold fAddL at e
  split at e
  · split at e
    · cases e
      rename_i xs ys hl
      obtain ⟨a, vs, rfl, h1, d1⟩ := (rx.items c).1 _ rfl
      obtain ⟨b, us, rfl, h2, d2⟩ := (ry.items c).1 _ rfl
      rw [hfa] at d1
      rw [hfb] at d2
      refine .inr (.inr (.inl ⟨_, _, _, _, rfl, rfl, h1.2, h2.2, ?_, fun p hp => ?_⟩))
      · rw [d1.length, d2.length]
        exact len_ble hl
      · refine q _ _ (laid_same hp) ⟨p, _, _, rfl, rfl, upd_same, c.bn hp, c.an hp, c.on hp, ?_⟩
        refine DvAll.mono (S := fun b => A b ∨ own O b) (fun b o n w => laid_same hp b o w) (fun b n hn w => ?_) _ (d1.append d2)
        rcases w with w | w
        · exact n w
        · exact hn (by rw [w]; exact hp)
    · cases e
  · cases e
theorem j_addL {a b : Expr} {fa fb : Fl} {ma mb : ME} (hfa : fa.el = .p) (hfb : fb.el = .p) (ha : PE X a (tE X.K Γ A B E fa ma)) (hb : PE X b (tE X.K Γ A B E fb mb)) : PE X (.BinOp a .Add b pos) (tE X.K Γ A B E .f (mOp2 fAddL ma mb)) := j_op2 (op2_addL hfa hfb) (pe_op o_add ha hb)
theorem j_gint {i : Int} (h : ∃ t, X.mg x = some (.int i t)) (hg : Gl X x := by rfl) (hd : (x == ("__debug__" : Str)) = false := by decide) : PE X (.Name x pos) (tE X.K Γ A B E .p (mC (.int i))) := by
  obtain ⟨t, e⟩ := h
  exact j_const (pe_glob (v := .int i) hg e ⟨_, rfl⟩ hd) (.int i)
theorem j_gstr {z : Str} (h : ∃ t, X.mg x = some (.str z t)) (hg : Gl X x := by rfl) (hd : (x == ("__debug__" : Str)) = false := by decide) : PE X (.Name x pos) (tE X.K Γ A B E .p (mC (.str z))) := by
  obtain ⟨t, e⟩ := h
  exact j_const (pe_glob (v := .str z) hg e ⟨_, rfl⟩ hd) (.str z)
theorem new_imp {K : PySem.W.Frag} {fl : Fl} {a : ME} {σ : L2.St} {H : Hp} {Q : VK} (w : tN K Γ A B E fl a σ H Q) : ∃ B', tE K Γ A B' E fl a σ H Q := by
  obtain ⟨O, env, si, q⟩ := w
  refine ⟨PD.cut O H, O, env, si.cut, ?_⟩
  cases e1 : a env with
  | bad => rw [e1] at q; exact q
  | exc c x => rw [e1] at q; exact q.cut si.cor si.lists
  | ok x =>
    rw [e1] at q
    refine fun v H1 s1 r1 => ?_
    have nw : ∀ p, fl = .f → v = .ref p → H p = none := fun p hf hv => by
      subst hf
      obtain ⟨p', vs, xs, e0, rfl, e, hz, hb, ho, hd⟩ := r1
      rw [hv] at e0
      cases e0
      rw [cut_ne ho] at hz
      exact hz
    exact q v H1 s1 (r1.base fun p hf hv => si.cor.bn (nw p hf hv)) fun hf p hv => nw p hf hv
/-- name = [..] on one line, the name a local of the frame -/
theorem s_setLc {i : Nat} {py : Pos} {kd : Kd} {elt tg iter : Expr} {ifs : List Expr} {scope : Scope} {own : List (Str × Nat)} {pos spos : Pos} {k : Nat} {Γ1 : List Kd} {fI fe : Fl} {mit : ML} {g : MG} {t : En → Res Bool} {e : ME} {rk : Fl} (z : Cz X E k) (hN : X.N.Nodup) (hy : X.N[i]? = some x) (hyl : X.env.scope.names.lookup x = some .local)
    (hl : Nat.blt i Γ.length = true) (hk : kdS (lcFl fe) = some kd) (hsw : swapsWith (.ListComp elt [⟨tg, iter, ifs, 0⟩] scope pos) (some (.Name x py)) spos.line X.env = pure true) (hi : ∀ B, PI X tg iter (tI false X.K Γ A B E fI mit)) (ok : BlkOk X.N X.env.scope scope own) (hv : noOwn Γ (own.map (·.2)) = true) (hfe : fe = .p ∨ fe = .t)
    (hg : ∀ (B : Hp) (A' : Addr → Prop) (s : Shared) (H : Hp) (C : Addr) (cl : List (Str × Addr)) (fp : List Addr), PG (X.blk s H scope (compEnvC scope cl C X.env) fp) tg (tG X.K (wipeK Γ (own.map (·.2))) Γ1 A' B (own.map (·.2)) fI g))
    (ht : ∀ (B : Hp) (A' : Addr → Prop) (s : Shared) (H : Hp) (C : Addr) (cl : List (Str × Addr)) (fp : List Addr), PTs (X.blk s H scope (compEnvC scope cl C X.env) fp) ifs (tT X.K Γ1 A' B E0 t))
    (he : ∀ (B : Hp) (A' : Addr → Prop) (s : Shared) (H : Hp) (C : Addr) (cl : List (Str × Addr)) (fp : List Addr), PE (X.blk s H scope (compEnvC scope cl C X.env) fp) elt (tE X.K Γ1 A' B E0 fe e)) (hs : ∀ x, foldedSetIterable iter X.env x = pure x := by intro _; rfl) :
    PS X (.Assign [.Name x py] (.ListComp elt [⟨tg, iter, ifs, 0⟩] scope pos) spos) (tS X.K Γ (Γ.set i kd) A B E rk (mSet i (mLc mit g t e))) := by
  refine ⟨fun pins s σ H D I ⟨O, env, si, q⟩ => ?_⟩
  have w : tN X.K Γ A B E (lcFl fe) (mLc mit g t e) σ H (fun x H1 => gName i x σ H1 D.nx) := by
    refine ⟨O, env, si, ?_⟩
    unfold mSet at q
    cases e1 : mLc mit g t e env with
    | bad => rw [e1] at q; exact q
    | exc c x => rw [e1] at q; exact q
    | ok x =>
      rw [e1] at q
      refine fun v H1 s1 r1 nw => ?_
      obtain ⟨O', st, si', _⟩ := si.put1 s1 (Nat.le_of_ble_eq_true hl) hk r1 nw
      exact q O' _ H1 st si'
  obtain ⟨B', w'⟩ := new_imp w
  exact (ps_setLc z.calm hN hy hyl hsw (hi B') ok (fun s H C cl fp => x_g fun A' => hg B' A' s H C cl fp) (fun s H C cl fp => x_t fun A' => ht B' A' s H C cl fp) (fun s H C cl fp => x_e fun A' => he B' A' s H C cl fp) hs).run pins s σ H D I (lc_imp hv hfe w')
end
end PD
set_option maxHeartbeats 2000000
/-! PM 1: defs that change the list of whole numbers that is their first argument. -/
namespace PD
open PySem PySem.Spec PyProof.Rows L2 PySem.W
/-- the frame's state: slot 0 holds the caller's list at D, of whole numbers -/
structure PotS (K : PySem.W.Frag) (Γ : List Kd) (A : Addr → Prop) (B : Hp) (D : Addr) (O : Ow) (H : Hp) (env : En) (σ : L2.St) : Prop where
  sim : Sim K Γ A B O H env σ
  at0 : σ[0]? = some (some (.ref D))
  lst : ∃ is : List Int, env[0]? = some (.list (is.map .int)) ∧ H D = some (.lst (is.map V.int))
/-- what such a def hands back: a value, and what its list is then -/
def RetM (K : PySem.W.Frag) (A : Addr → Prop) (B : Hp) (D : Addr) (x : PyData) (rt : V → Hp → Prop) : Prop := match x with
  | .tuple [y, p] => ∀ (v : V) (is : List Int) (H' : Hp), p = .list (is.map .int) → Same B H' → H' D = some (.lst (is.map V.int)) → Dv K H' A v y → rt v H'
  | _ => False
/-- a statement of such a def -/
def tM (K : PySem.W.Frag) (Γ Γ' : List Kd) (A : Addr → Prop) (B : Hp) (E : XK) (D : Addr) (m : MS) : TS := fun Dn σ H => ∃ O env, PotS K Γ A B D O H env σ ∧ match m env with
  | .ok (.next env') => ∀ O' σ' H', PotS K Γ' A B D O' H' env' σ' → Dn.nx σ' H'
  | .ok (.ret x) => RetM K A B D x Dn.rt
  | .ok (.cont _) => False
  | .exc c x => XOk K A B E c x
  | .bad => False
def mRetM (a : ME) : MS := fun env => (a env).bind fun y => (Res.opt env[0]?).bind fun p => .ok (.ret (.tuple [y, p]))
/-- pot[j] = e -/
def mPutM (a j : ME) : MS := fun env => (a env).bind fun y => (Res.opt (asI y)).bind fun w => (Res.opt env[0]?).bind fun l => (Res.opt (asL l)).bind fun xs => (j env).bind fun k => (Res.opt (asI k)).bind fun z => (Res.opt (ixN xs.length z)).bind fun t => .ok (.next (env.set 0 (.list (xs.set t (.int w)))))
section
variable {X : Cx} {Γ Γ1 Γ' : List Kd} {A : Addr → Prop} {B : Hp} {E : XK} {D : Addr} {st : Stmt} {rest : List Stmt} {m n : MS} {e : Expr} {a : ME} {fl f2 : Fl} {pos : Pos} {O : Ow} {H H' : Hp} {env : En} {σ : L2.St} {K : PySem.W.Frag}
theorem PotS.up (p : PotS K Γ A B D O H env σ) (s : Same H H') : PotS K Γ A B D O H' env σ := by
  obtain ⟨is, e1, e2⟩ := p.lst
  exact ⟨p.sim.up s, p.at0, is, e1, s _ _ e2⟩
theorem r_nil : PSs X [] (tM X.K Γ Γ A B E D mNext) := ⟨fun pins s σ H Dn I ⟨O, env, p, q⟩ => pss_nil.run pins s σ H Dn I (q O σ H p)⟩
theorem r_one (h1 : PS X st (tM X.K Γ Γ' A B E D m)) : PSs X [st] (tM X.K Γ Γ' A B E D m) := pss_one h1
theorem r_cons (h1 : PS X st (tM X.K Γ Γ1 A B E D m)) (h2 : PSs X rest (tM X.K Γ1 Γ' A B E D n)) : PSs X (st :: rest) (tM X.K Γ Γ' A B E D (mSeq m n)) := by
  refine ⟨fun pins s σ H Dn I w => (pss_cons h1 h2).run pins s σ H Dn I ?_⟩
  obtain ⟨O, env, si, q⟩ := w
  refine ⟨O, env, si, ?_⟩
  unfold mSeq at q
  cases e1 : m env with
  | bad => rw [e1] at q; exact q
  | exc c x => rw [e1] at q; exact q
  | ok o =>
    rw [e1] at q
    cases o with
    | ret x => exact q
    | cont e' => exact q
    | next e' =>
      refine fun O' σ' H' z => ⟨O', e', z, ?_⟩
      simp only [Res.bind] at q
      exact q
theorem r_if {c : Expr} {t f : List Stmt} {mc : En → Res Bool} (hc : PT X c (tT X.K Γ A B E mc)) (ht : PSs X t (tM X.K Γ Γ' A B E D m)) (hf : PSs X f (tM X.K Γ Γ' A B E D n)) : PS X (.If c t f pos) (tM X.K Γ Γ' A B E D (mIfS mc m n)) := by
  refine ⟨fun pins s σ H Dn I ⟨O, env, p, q⟩ => (ps_if hc ht hf).run pins s σ H Dn I ⟨O, env, p.sim, ?_⟩⟩
  unfold mIfS at q
  cases e1 : mc env with
  | bad => rw [e1] at q; exact q
  | exc c x => rw [e1] at q; exact q
  | ok k =>
    rw [e1] at q
    intro H1 s1
    cases k with
    | true => exact (if_pos rfl).mpr ⟨O, env, p.up s1, q⟩
    | false => exact (if_neg (by simp)).mpr ⟨O, env, p.up s1, q⟩
theorem r_ret (hf : fl.gives .p = true) (h : PE X e (tE X.K Γ A B E fl a)) : PS X (.Return (some e) pos) (tM X.K Γ Γ' A B E D (mRetM a)) := by
  refine ⟨fun pins s σ H Dn I ⟨O, env, p, q⟩ => (ps_ret h).run pins s σ H Dn I ⟨O, env, p.sim, ?_⟩⟩
  unfold mRetM at q
  cases e1 : a env with
  | bad => rw [e1] at q; exact q
  | exc c x => rw [e1] at q; exact q
  | ok y =>
    rw [e1] at q
    obtain ⟨is, e2, e3⟩ := p.lst
    simp only [Res.bind, e2, Res.opt] at q
    intro v H1 s1 r1
    have c1 := p.sim.cor.up s1
    exact q v is H1 rfl c1.same (s1 _ _ e3) (r1.ret c1 hf)
theorem r_set {i : Nat} {x : Str} {pos' : Pos} {k : Kd} (hN : X.N.Nodup) (hi : X.N[i]? = some x) (hx : Loc X.env.scope x) (hl : Nat.blt i Γ.length = true) (h0 : i ≠ 0) (hk : kdS fl = some k) (h : ∀ B, PE X e (tE X.K Γ A B E fl a))
    (hs : swapsWith e (some (.Name x pos')) pos.line X.env = pure false := by rfl) (hf : X.fn x = true ∨ X.env.scope.names.lookup x = some .local := by first | exact .inl rfl | exact .inr rfl | assumption) :
    PS X (.Assign [.Name x pos'] e pos) (tM X.K Γ (Γ.set i k) A B E D (mSet i a)) := by
  refine ⟨fun pins s σ H Dn I ⟨O, env, p, q⟩ => (ps_set hN hi hx (j_new h) hs hf).run pins s σ H Dn I ⟨O, env, p.sim, ?_⟩⟩
  unfold mSet at q
  cases e1 : a env with
  | bad => rw [e1] at q; exact q
  | exc c x => rw [e1] at q; exact q
  | ok x =>
    rw [e1] at q
    refine fun v H1 s1 r1 nw => ?_
    obtain ⟨O', st, si', _⟩ := p.sim.put1 s1 (Nat.le_of_ble_eq_true hl) hk r1 nw
    obtain ⟨is, e2, e3⟩ := p.lst
    refine q O' _ H1 ⟨si', ?_, is, ?_, s1 _ _ e3⟩
    · rw [List.getElem?_set_ne h0]
      exact p.at0
    · rw [List.getElem?_set_ne h0]
      exact e2
def noB (Γ : List Kd) : Bool := (Γ.drop 1).all fun k => !decide (k = .b)
theorem noB_at (h : noB Γ = true) {j : Nat} (hj : Γ[j]? = some .b) : j = 0 := by
  cases j with
  | zero => rfl
  | succ j =>
    have : Kd.b ∈ Γ.drop 1 := List.mem_of_getElem? (i := j) (by rw [List.getElem?_drop, Nat.add_comm]; exact hj)
    have z := List.all_eq_true.mp h _ this
    simp at z
theorem PotS.put {is' : List Int} (p : PotS K Γ A B D O H env σ) (hA : A D) (hB : B D = none) (h0 : Γ[0]? = some .b) (hb : noB Γ = true) : PotS K Γ A B D O (upd H D (.lst (is'.map V.int))) (env.set 0 (.list (is'.map .int))) σ := by
  obtain ⟨is, e1, e2⟩ := p.lst
  have c := p.sim.cor
  have hD : ¬ own O D := c.ao' D hA
  have l0 : 0 < env.length := (List.getElem?_eq_some_iff.mp e1).1
  have at_ : ∀ a o, a ≠ D → H a = some o → Tk H (upd H D (.lst (is'.map V.int))) a o := fun a o h e => tk_lst e2 h e
  have some' : ∀ a, H a ≠ none → upd H D (.lst (is'.map V.int)) a ≠ none := fun a h => by
    by_cases e : a = D
    · rw [e, upd_same]; simp
    · rw [upd_ne e]; exact h
  have keep : ∀ {S : Addr → Prop} {v : V} {x : PyData}, S D → Dv K H S v x → Dv K (upd H D (.lst (is'.map V.int))) S v x := fun {S v x} hs d => Dv.mono (fun a o n q => at_ a o (fun z => n (z ▸ hs)) q) (fun a n _ => n) x d
  have keepA : ∀ {S : Addr → Prop} {v : List V} {x : List PyData}, S D → DvAll K H S v x → DvAll K (upd H D (.lst (is'.map V.int))) S v x := fun {S v x} hs d => DvAll.mono (fun a o n q => at_ a o (fun z => n (z ▸ hs)) q) (fun a n _ => n) x d
  refine ⟨⟨⟨fun a o q => (c.same a o q).trans fun o' h' => at_ a o' (fun z => by rw [z, hB] at q; cases q) h', fun a z => some' a (c.an' a z), c.ao', c.ob, fun j a e => some' a (c.oh j a e), c.inj, tabs_lst e2 c.tabs⟩, by rw [List.length_set]; exact p.sim.len, p.sim.lenS, fun j k hj hn => ?_, p.sim.owns⟩, p.at0, is', by rw [List.getElem?_set_self l0], upd_same⟩
  by_cases hj0 : j = 0
  · subst hj0
    rw [h0] at hj
    cases hj
    exact ⟨.ref D, .list (is'.map .int), p.at0, List.getElem?_set_self l0, .lst ⟨hD, .inl upd_same⟩ (ints_dvS is')⟩
  · obtain ⟨v, x, h1, h2, h3⟩ := p.sim.slot j k hj hn
    refine ⟨v, x, h1, by rw [List.getElem?_set_ne (fun z => hj0 z.symm)]; exact h2, ?_⟩
    cases k with
    | n => trivial
    | d => exact keep (S := sset .p A O) (.inl hA) h3
    | b => exact absurd (noB_at hb hj) hj0
    | o =>
      obtain ⟨b, vs, xs, g1, g2, g3, g4, g5⟩ := h3
      exact ⟨b, vs, xs, g1, g2, g3, by rw [upd_ne (fun z => hD ⟨j, by rw [g1, z]⟩)]; exact g4, keepA (S := sset .p A O) (.inl hA) g5⟩
/-- pot[j] = e -/
theorem r_put {x : Str} {px tpos : Pos} {ix : Expr} {j : ME} (hA : A D) (hB : B D = none) (h0 : Γ[0]? = some .b) (hb : noB Γ = true) (ho : PE X (.Name x px) (tVar 0)) (ha : PE X e (tE X.K Γ A B E fl a)) (hj : PE X ix (tE X.K Γ A B E f2 j))
    (has : ∀ v, assign (.Subscript (.Name x px) ix tpos) X.env v = (do
      let ov ← holding [v] (eval (.Name x px) X.env)
      let iv ← holding [v, ov] (eval ix X.env)
      standAt tpos
      holding [v, ov, iv] (setItem ov iv v)
      release [v, ov, iv] []) := by intro _; rfl)
    (hs : swapsWithSole [.Subscript (.Name x px) ix tpos] e pos.line X.env = pure false := by rfl) (hw : swappedStores [.Subscript (.Name x px) ix tpos] e X.env = pure none := by rfl)
    (h1 : (assignEach [.Subscript (.Name x px) ix tpos] X.env).map (·.2) = [assign (.Subscript (.Name x px) ix tpos) X.env] := by rfl) :
    PS X (.Assign [.Subscript (.Name x px) ix tpos] e pos) (tM X.K Γ Γ A B E D (mPutM a j)) := by
  have hP := ps_asg (pos := pos) ha (pg_sub ho hj set_list has) hs hw h1
  refine ⟨fun pins s σ H Dn I ⟨O, env, p, q⟩ => hP.run pins s σ H Dn I ⟨O, env, p.sim, ?_⟩⟩
  obtain ⟨is, g1, g2⟩ := p.lst
  unfold mPutM at q
  cases e1 : a env with
  | bad => rw [e1] at q; exact q
  | exc c x => rw [e1] at q; exact q
  | ok y =>
    simp only [e1, Res.bind, Res.opt, g1, asL] at q
    cases y with
    | int w =>
      simp only [asI] at q
      refine fun v H1 s1 r1 => ⟨_, p.at0, O, env, p.sim.up s1, ?_⟩
      cases r1.any (p.sim.cor.up s1)
      cases e2 : j env with
      | bad => simp only [e2] at q
      | exc c x => simp only [e2] at q; exact q
      | ok k =>
        simp only [e2] at q
        refine fun u H2 s2 r2 => ?_
        cases k with
        | int z =>
          simp only [asI] at q
          cases e4 : ixN (is.map PyData.int).length z with
          | none => simp only [e4] at q
          | some t =>
            simp only [e4] at q
            cases r2.any (p.sim.cor.up (s1.trans s2))
            have p2 := p.up (s1.trans s2)
            refine ⟨D, is.map V.int, z, t, rfl, rfl, (s1.trans s2) _ _ g2, by rw [List.length_map] at e4 ⊢; exact e4, ?_⟩
            have p3 := p2.put (is' := is.set t w) hA hB h0 hb
            rw [List.map_set, List.map_set] at p3
            exact q O σ _ p3
        | _ => simp only [asI] at q
    | _ => simp only [asI] at q
end
end PD
set_option maxHeartbeats 2000000
/-! PM 2: such defs promise, and are called. -/
namespace PD
open PySem PySem.Spec PyProof.Rows L2 PySem.W
def hideD (D : Addr) (H : Hp) : Hp := fun a => if a = D then none else H a
theorem hideD_at {D : Addr} {H : Hp} : hideD D H D = none := if_pos rfl
theorem hideD_ne {D a : Addr} {H : Hp} (h : a ≠ D) : hideD D H a = H a := if_neg h
theorem hideD_le {D : Addr} {H : Hp} : ∀ a o, hideD D H a = some o → H a = some o := fun a o e => by
  by_cases h : a = D
  · rw [h, hideD_at] at e; cases e
  · rw [hideD_ne h] at e; exact e
theorem hideD_same {D : Addr} {H : Hp} : Same (hideD D H) H := fun a o e => .of (hideD_le a o e) fun _ t => t.ext hideD_le
/-- what such a def promises -/
def spM (K : PySem.W.Frag) (n : Nat) (f : List PyData → Res PyData) : Sp := fun vs H Q E => vs.length = n ∧ LamX.Tabs PD.tabs H ∧ ∃ (A : Addr → Prop) (D : Addr) (is : List Int) (us : List V) (xs : List PyData),
  vs = .ref D :: us ∧ A D ∧ H D = some (.lst (is.map V.int)) ∧ (∀ a, A a → H a ≠ none) ∧ DvAll K H A us xs ∧ match f (.list (is.map .int) :: xs) with
  | .ok x => RetM K A (hideD D H) D x Q
  | .exc c x => XOk K A (hideD D H) E c x
  | .bad => False
structure FnM (P : Program) (w : World) (K : PySem.W.Frag) (mg : Str → Option Value) (base : Heap) (k n : Nat) (x : Str) (f : List PyData → Res PyData) : Prop where
  ex : ∃ fa fd ps, FnOk P w K mg base (L2.CX P w) k fa fd ps (spM K n f) ∧ mg x = some (.ref fa) ∧ PySem.W.keepIn K (.ref fa) = true ∧ Binds K fd ps []
def runM (m : MS) (l : Nat) (xs : List PyData) : Res PyData := match m (xs ++ List.replicate l .none) with
  | .ok (.ret x) => .ok x
  | .ok (.next _) => .bad
  | .ok (.cont _) => .bad
  | .exc c x => .exc c x
  | .bad => .bad
/-- slots at the entry of such a def: n parameters behind the list -/
def atEntryM (n l : Nat) : List Kd := .b :: (List.replicate n .d ++ List.replicate l .n)
theorem potS_start {K : PySem.W.Frag} {A : Addr → Prop} {H : Hp} {N : List Str} {D : Addr} {is : List Int} {us : List V} {xs : List PyData} {n l : Nat} (hT : LamX.Tabs PD.tabs H) (hA : ∀ a, A a → H a ≠ none) (hD : H D = some (.lst (is.map V.int))) (hl : us.length = n) (hN : N.length = n + 1 + l) (d : DvAll K H A us xs) :
    PotS K (atEntryM n l) A (hideD D H) D (fun _ => none) H (.list (is.map .int) :: xs ++ List.replicate l .none) (L2.start N (.ref D :: us)) := by
  have hx : xs.length = n := d.length.symm.trans hl
  have ho : ∀ a, ¬ own (fun _ : Nat => (none : Option Addr)) a := fun a ⟨i, e⟩ => by cases e
  refine ⟨⟨⟨hideD_same, hA, fun a _ => ho a, (fun i a e => nomatch e), (fun i a e => nomatch e), (fun i j a e => nomatch e), hT⟩, by simp [atEntryM, hx], by simp [atEntryM, L2.start, hl, hN], fun i k hi hk => ?_, (fun i a e => nomatch e)⟩, by simp [L2.start], is, by simp, hD⟩
  cases i with
  | zero =>
    simp [atEntryM] at hi
    subst hi
    exact ⟨.ref D, .list (is.map .int), by simp [L2.start], by simp, .lst ⟨ho D, .inl hD⟩ (ints_dvS is)⟩
  | succ i =>
    simp only [atEntryM, List.getElem?_cons_succ] at hi
    by_cases h : i < n
    · rw [List.getElem?_append_left (by simpa using h), List.getElem?_replicate] at hi
      simp only [h, if_true] at hi
      cases hi
      obtain ⟨v, h1, h2⟩ := dvAll_get d (i := i) (by omega)
      refine ⟨v, xs[i], ?_, ?_, h2.less fun a z => z.elim id fun z => (ho a z).elim⟩
      · unfold L2.start
        rw [List.map_cons, List.cons_append, List.getElem?_cons_succ, List.getElem?_append_left (by simp; omega), List.getElem?_map, h1]
        rfl
      · rw [List.cons_append, List.getElem?_cons_succ, List.getElem?_append_left (by omega)]
        exact List.getElem?_eq_getElem _
    · rw [List.getElem?_append_right (by simp; omega), List.getElem?_replicate] at hi
      split at hi
      · cases hi; exact absurd rfl hk
      · cases hi
section
variable {P : Program} {w : World} {K : PySem.W.Frag} {mg : Str → Option Value} {base : Heap} {x qual : Str} {params : Arguments} {body : List Stmt} {scope : Scope} {fa : Addr} {fd : FuncData} {N ps : List Str} {k n l : Nat} {m : MS}
/-- such a def's body -/
def BodyM (P : Program) (w : World) (K : PySem.W.Frag) (mg : Str → Option Value) (base : Heap) (N : List Str) (qual : Str) (scope : Scope) (fa : Addr) (cdv : Value) (body : List Stmt) (k n l : Nat) (m : MS) : Prop :=
  ∀ (A0 : Around) (outer : List Env) (s : Shared) (H : Hp) (E : XK) (A : Addr → Prop) (B : Hp) (D : Addr), let X := cxOf (L2.CX P w) P w K mg base N qual scope fa cdv A0 outer s H E
    A D → B D = none → Cz X E k → Takes X (fun cls d _ H => E cls d H) → PassesOwn (model X.prog X.w) X.A X.env X.xe → ∃ Γ', PSs X body (tM K (atEntryM n l) Γ' A B E D m)
theorem fnM_ok (F : FunD K x qual params body scope [] [] fa fd) (S : FnScope N ps scope) (hn : ps.length = n + 1) (hN : N.length = n + 1 + l) (hm : mg x = some (.ref fa)) (b : Binds K fd ps []) (h : BodyM P w K mg base N qual scope fa fd.code body k n l m) :
    FnM P w K mg base (k + 1) (n + 1) x (runM m l) := by
  have kp := F.kp
  obtain ⟨oc, od, dV, kV, doc, pm, an, cdv, ct, osl, rfl, lk, hcd, _, _⟩ := F.ex
  refine ⟨fa, _, ps, fn_of lk hcd S (fun vs H Q E hs => hs.1.trans hn.symm) (fun A0 outer s H vs Q E hr' hs => ?_), hm, kp, b⟩
  obtain ⟨hl, hT, A, D, is, us, xs, rfl, hAD, hD, hA, hd, hs⟩ := hs
  obtain ⟨Γ', hb⟩ := h A0 outer s H E A (hideD D H) D hAD hideD_at ⟨hr', rfl, passes_call (takes_of rfl rfl rfl rfl) fun _ _ _ _ z => z⟩ (takes_of rfl rfl rfl rfl) (passes_of rfl)
  refine ⟨_, hb, fun _ => none, _, potS_start hT hA hD (by simpa using hl) hN hd, ?_⟩
  unfold runM at hs
  cases e : m (.list (is.map .int) :: xs ++ List.replicate l .none) with
  | bad => simp only [e] at hs
  | exc c x => simp only [e] at hs; exact hs
  | ok o =>
    cases o with
    | next env' => simp only [e] at hs
    | ret x => simp only [e] at hs; exact hs
    | cont env' => simp only [e] at hs
end
end PD
set_option maxHeartbeats 2000000
/-! PM 3: calls that hand the list on. -/
namespace PD
open PySem PySem.Spec PyProof.Rows L2 PySem.W
theorem hide_tk {D a : Addr} {H H' : Hp} {vs : List V} {o : HO} (hD : H D = some (.lst vs)) (s : Same (hideD D H) H') (n : a ≠ D) (e : H a = some o) : Tk H H' a o := by
  have z := s a o (by rw [hideD_ne n]; exact e)
  cases o with
  | tbl ps =>
    obtain ⟨h1, h2⟩ := z
    refine ⟨h1, fun q hm t => h2 q hm ?_⟩
    obtain ⟨ps', t1, t2, t3⟩ := t
    refine ⟨ps', by rw [hideD_ne n]; exact t1, t2, fun pos cv hc => ?_⟩
    obtain ⟨c, e1, e2⟩ := t3 pos cv hc
    refine ⟨c, e1, ?_⟩
    rw [hideD_ne fun w => ?_]
    · exact e2
    · rw [w, hD] at e2
      unfold LamX.CodeO at e2
      cases e2
  | _ => exact z
section
variable {X : Cx} {Γ Γ1 Γ' : List Kd} {A : Addr → Prop} {B : Hp} {E : XK} {D : Addr} {e : Expr} {fl : Fl} {O : Ow} {H H' : Hp} {env : En} {σ : L2.St} {K : PySem.W.Frag}
theorem PotS.moved {is' : List Int} (p : PotS K Γ A B D O H env σ) (hA : A D) (hB : B D = none) (h0 : Γ[0]? = some .b) (hb : noB Γ = true) (s : Same (hideD D H) H') (hD' : H' D = some (.lst (is'.map V.int))) : PotS K Γ A B D O H' (env.set 0 (.list (is'.map .int))) σ := by
  obtain ⟨is, e1, e2⟩ := p.lst
  have c := p.sim.cor
  have hD : ¬ own O D := c.ao' D hA
  have l0 : 0 < env.length := (List.getElem?_eq_some_iff.mp e1).1
  have at_ : ∀ a o, a ≠ D → H a = some o → Tk H H' a o := fun a o h e => hide_tk e2 s h e
  have some' : ∀ a, H a ≠ none → H' a ≠ none := fun a h => by
    by_cases e : a = D
    · rw [e, hD']; simp
    · cases q : H a with
      | none => exact absurd q h
      | some o => exact (at_ a o e q).some
  have keep : ∀ {S : Addr → Prop} {v : V} {x : PyData}, S D → Dv K H S v x → Dv K H' S v x := fun {S v x} hs d => Dv.mono (fun a o n q => at_ a o (fun z => n (z ▸ hs)) q) (fun a n _ => n) x d
  have keepA : ∀ {S : Addr → Prop} {v : List V} {x : List PyData}, S D → DvAll K H S v x → DvAll K H' S v x := fun {S v x} hs d => DvAll.mono (fun a o n q => at_ a o (fun z => n (z ▸ hs)) q) (fun a n _ => n) x d
  refine ⟨⟨⟨fun a o q => (c.same a o q).trans fun o' h' => at_ a o' (fun z => by rw [z, hB] at q; cases q) h', fun a z => some' a (c.an' a z), c.ao', c.ob, fun j a e => some' a (c.oh j a e), c.inj, fun p hp => ?_⟩, by rw [List.length_set]; exact p.sim.len, p.sim.lenS, fun j k hj hn => ?_, p.sim.owns⟩, p.at0, is', by rw [List.getElem?_set_self l0], hD'⟩
  · have h := c.tabs p hp
    obtain ⟨ps, e, _⟩ := c.tabs p hp
    exact (at_ _ _ (fun z => by rw [z, e2] at e; cases e) e).2 _ hp h
  by_cases hj0 : j = 0
  · subst hj0
    rw [h0] at hj
    cases hj
    exact ⟨.ref D, .list (is'.map .int), p.at0, List.getElem?_set_self l0, .lst ⟨hD, .inl hD'⟩ (ints_dvS is')⟩
  · obtain ⟨v, x, h1, h2, h3⟩ := p.sim.slot j k hj hn
    refine ⟨v, x, h1, by rw [List.getElem?_set_ne (fun z => hj0 z.symm)]; exact h2, ?_⟩
    cases k with
    | n => trivial
    | d => exact keep (S := sset .p A O) (.inl hA) h3
    | b => exact absurd (noB_at hb hj) hj0
    | o =>
      obtain ⟨b, vs, xs, g1, g2, g3, g4, g5⟩ := h3
      exact ⟨b, vs, xs, g1, g2, g3, at_ _ _ (fun z => hD ⟨j, by rw [g1, z]⟩) g4, keepA (S := sset .p A O) (.inl hA) g5⟩
/-- a value, and what the list is then -/
def setR : PyData → Option (PyData × List PyData)
  | .tuple [y, .list ps] => match intsOf ps with
    | some _ => some (y, ps)
    | none => none
  | _ => none
def mSetM (i : Nat) (f : List PyData → Res PyData) (ml : ML) : MS := fun env => (Res.opt env[0]?).bind fun l => (ml env).bind fun xs => (f (l :: xs)).bind fun r => (Res.opt (setR r)).bind fun p => .ok (.next ((env.set 0 (.list p.2)).set i p.1))
theorem ints_back : ∀ {ps : List PyData} {is : List Int}, intsOf ps = some is → ps = is.map .int
  | [], _, e => by cases e; rfl
  | .int i :: ps, is, e => by
    simp only [intsOf] at e
    cases e2 : intsOf ps with
    | none => rw [e2] at e; cases e
    | some js =>
      rw [e2] at e
      cases e
      rw [ints_back e2]
      rfl
  | .none :: _, _, e => by cases e
  | .bool _ :: _, _, e => by cases e
  | .str _ :: _, _, e => by cases e
  | .list _ :: _, _, e => by cases e
  | .tuple _ :: _, _, e => by cases e
  | .dict _ :: _, _, e => by cases e
theorem ints_fwd : ∀ is : List Int, intsOf (is.map PyData.int) = some is
  | [] => rfl
  | i :: is => by rw [List.map_cons, intsOf, ints_fwd is]; rfl
theorem setR_some {r y : PyData} {ps : List PyData} (h : setR r = some (y, ps)) : ∃ is : List Int, r = .tuple [y, .list (is.map .int)] ∧ ps = is.map .int := by
  unfold setR at h
  split at h
  · split at h
    · rename_i is e
      cases h
      have e2 := ints_back e
      subst e2
      exact ⟨is, rfl, rfl⟩
    · cases h
  · cases h
/-- x = f(pot, ..) -/
theorem r_setM {i : Nat} {x g : Str} {pos' pos p1 p2 p3 : Pos} {y0 : Str} {es : List Expr} {fls : List Fl} {ml : ML} {f : List PyData → Res PyData} {kf nf k : Nat} (hA : A D) (hB : B D = none) (h0 : Γ[0]? = some .b) (hb : noB Γ = true) (F : FnM X.prog X.w X.K X.mg X.base kf nf g f) (z : Cz X E k) (hk : Nat.ble kf k = true)
    (hN : X.N.Nodup) (hi : X.N[i]? = some x) (hx : Loc X.env.scope x) (hl : Nat.blt i Γ.length = true) (hi0 : i ≠ 0) (hj : Fl.joins fls = .p) (hn : Nat.beq (fls.length + 1) nf = true) (ho : PE X (.Name y0 p1) (tVar 0)) (ha : PA X es (tL X.K Γ A B E fls ml)) (hg : Gl X g := by rfl) (hdb : (g == ("__debug__" : Str)) = false := by decide)
    (he : starEach (.Name y0 p1 :: es) X.env = (false, eval (.Name y0 p1) X.env) :: starEach es X.env := by rfl) (hpl : (backTo p3 (starEach es X.env)).any (·.1) = false := by rfl)
    (hs : swapsWith (.Call (.Name g p2) (.Name y0 p1 :: es) [] p3) (some (.Name x pos')) pos.line X.env = pure false := by rfl) (hf : X.fn x = true ∨ X.env.scope.names.lookup x = some .local := by first | exact .inl rfl | exact .inr rfl | assumption) :
    PS X (.Assign [.Name x pos'] (.Call (.Name g p2) (.Name y0 p1 :: es) [] p3) pos) (tM X.K Γ (Γ.set i .d) A B E D (mSetM i f ml)) := by
  obtain ⟨fa, fd, ps, F, hm, hkp, hbd⟩ := F.ex
  have hP := ps_set (pos := pos) (pos' := pos') hN hi hx (pe_call (pos := p3) (p := p2) F (z.room.mono (Nat.le_of_ble_eq_true hk)) hg hm hkp hbd .nil z.pass (pa_cons ho ha he) hdb he hpl) hs hf
  refine ⟨fun pins s σ H Dn I ⟨O, env, p, q⟩ => hP.run pins s σ H Dn I ⟨.ref D, p.at0, O, env, p.sim, ?_⟩⟩
  obtain ⟨is, g1, g2⟩ := p.lst
  unfold mSetM at q
  simp only [g1, Res.opt, Res.bind] at q
  cases e1 : ml env with
  | bad => rw [e1] at q; exact q
  | exc c x => rw [e1] at q; exact q
  | ok xs =>
    simp only [e1] at q
    intro vs H1 s1 r1
    have p1' := p.up s1
    have c1 := p1'.sim.cor
    have da := r1.all c1
    rw [hj] at da
    show spM X.K nf f (V.ref D :: vs ++ []) H1 _ E
    rw [List.append_nil]
    refine ⟨by rw [List.length_cons, r1.lenF]; exact Nat.eq_of_beq_eq_true hn, c1.tabs, sset .p A O, D, is, vs, xs, rfl, .inl hA, s1 _ _ g2, fun a w => w.elim (c1.an' a) fun ⟨i, e⟩ => c1.oh i a e, da, ?_⟩
    cases e2 : f (.list (is.map .int) :: xs) with
    | bad => simp only [e2] at q
    | exc c x =>
      simp only [e2] at q
      refine fun H' d v sm hd e3 dv => q H' d v (fun a o w => ?_) ?_ e3 (dv.less fun a w => .inl w)
      · exact (c1.same a o w).trans fun o' h' => hide_tk (s1 _ _ g2) sm (fun t => by rw [t, hB] at w; cases w) h'
      · by_cases hdD : d = D
        · rw [hdD]; exact hB
        · rw [hideD_ne hdD] at hd
          exact c1.bn hd
    | ok r =>
      simp only [e2] at q
      cases e3 : setR r with
      | none => simp only [e3] at q
      | some yp =>
        obtain ⟨y, ps⟩ := yp
        simp only [e3] at q
        obtain ⟨is0, rfl, rfl⟩ := setR_some e3
        show RetM X.K (sset .p A O) (hideD D H1) D (.tuple [y, .list (is0.map .int)]) _
        intro v is' H' e4 sm hD' dv
        injection e4 with e4
        have pm := p1'.moved hA hB h0 hb sm hD'
        rw [← e4] at pm
        obtain ⟨O', st, si', _⟩ := pm.sim.put1 (fl := .p) (Same.refl H') (Nat.le_of_ble_eq_true hl) rfl dv (fun w => by cases w)
        obtain ⟨is2, f1, f2⟩ := pm.lst
        refine q O' _ H' ⟨si', ?_, is2, ?_, f2⟩
        · rw [List.getElem?_set_ne hi0]
          exact pm.at0
        · rw [List.getElem?_set_ne hi0]
          exact f1
end
end PD
set_option maxHeartbeats 2000000
/-! PM 4: return a[f(pot, ..)]. -/
namespace PD
open PySem PySem.Spec PyProof.Rows L2 PySem.W
theorem ix_op2 {K : PySem.W.Frag} {fa fb : Fl} : ∃ r, Op2 K r fIx fa fb fa.el ∧ ∀ X : Cx, X.K = K → IxR X r := by
  refine ⟨_, ?_, fun X e => by subst e; exact ix_seq⟩
  intro A B H O v u x y z Q c rx ry e q
  unfold fIx at e
  have w1 := rx.items c
  split at e
  · cases ry.any c
    obtain ⟨a1, vs, rfl, h1, d1⟩ := w1.1 _ rfl
    obtain ⟨v2, h2, h3⟩ := at_len d1 e
    exact .inl ⟨_, _, _, v2, rfl, rfl, h1.sq, h2, q v2 H (Same.refl H) (VRel.of_dv (el_bare _) h3)⟩
  · cases ry.any c
    obtain ⟨a1, vs, rfl, h1, d1⟩ := w1.2 _ rfl
    obtain ⟨v2, h2, h3⟩ := at_len d1 e
    exact .inr (.inl ⟨_, _, _, v2, rfl, rfl, h1.sq, h2, q v2 H (Same.refl H) (VRel.of_dv (el_bare _) h3)⟩)
  · cases ry.any c
    cases rx.any c
    split at e
    · rename_i x i _ hl
      cases q2 : atI x.cps.toList i with
      | none => rw [q2] at e; cases e
      | some ch =>
        rw [q2] at e
        cases e
        exact .inr (.inr ⟨_, _, ch, rfl, rfl, len_ble hl, q2, q _ H (Same.refl H) (VRel.of_dv (el_bare _) (.str _))⟩)
    · cases e
  · cases e
section
variable {X : Cx} {Γ Γ1 Γ' : List Kd} {A : Addr → Prop} {B : Hp} {E : XK} {D : Addr} {e : Expr} {O : Ow} {H H' : Hp} {env : En} {σ : L2.St} {K : PySem.W.Frag}
def mRetIxM (a : ME) (f : List PyData → Res PyData) (ml : ML) : MS := fun env => (a env).bind fun x => (Res.opt env[0]?).bind fun l => (ml env).bind fun xs => (f (l :: xs)).bind fun r => (Res.opt (setR r)).bind fun p => (Res.opt (fIx x p.1)).bind fun y => .ok (.ret (.tuple [y, .list p.2]))
theorem r_retIxM {g : Str} {pos p1 p2 p3 p4 : Pos} {y0 : Str} {es : List Expr} {fls : List Fl} {a : ME} {ml : ML} {f : List PyData → Res PyData} {kf nf k : Nat} (hA : A D) (hB : B D = none) (h0 : Γ[0]? = some .b) (hb : noB Γ = true) (F : FnM X.prog X.w X.K X.mg X.base kf nf g f) (z : Cz X E k) (hk : Nat.ble kf k = true)
    (hj : Fl.joins fls = .p) (hn : Nat.beq (fls.length + 1) nf = true) (hx : PE X e (tE X.K Γ A B E .p a)) (ho : PE X (.Name y0 p1) (tVar 0)) (ha : PA X es (tL X.K Γ A B E fls ml)) (hg : Gl X g := by rfl) (hdb : (g == ("__debug__" : Str)) = false := by decide)
    (he : starEach (.Name y0 p1 :: es) X.env = (false, eval (.Name y0 p1) X.env) :: starEach es X.env := by rfl) (hpl : (backTo p3 (starEach es X.env)).any (·.1) = false := by rfl) (hs : PlainIx (.Call (.Name g p2) (.Name y0 p1 :: es) [] p3) := by exact fun _ _ => rfl) :
    PS X (.Return (some (.Subscript e (.Call (.Name g p2) (.Name y0 p1 :: es) [] p3) p4)) pos) (tM X.K Γ Γ' A B E D (mRetIxM a f ml)) := by
  obtain ⟨fa, fd, ps, F, hm, hkp, hbd⟩ := F.ex
  obtain ⟨r, o, hr⟩ := ix_op2 (K := X.K) (fa := .p) (fb := .p)
  have hP := ps_ret (pos := pos) (pe_ix (pos := p4) (hr X rfl) hx (pe_call (pos := p3) (p := p2) F (z.room.mono (Nat.le_of_ble_eq_true hk)) hg hm hkp hbd .nil z.pass (pa_cons ho ha he) hdb he hpl) hs)
  refine ⟨fun pins s σ H Dn I ⟨O, env, p, q⟩ => hP.run pins s σ H Dn I ⟨O, env, p.sim, ?_⟩⟩
  unfold mRetIxM at q
  cases e0 : a env with
  | bad => rw [e0] at q; exact q
  | exc c x => rw [e0] at q; exact q
  | ok x =>
    obtain ⟨is, g1, g2⟩ := p.lst
    simp only [e0, g1, Res.opt, Res.bind] at q
    intro v0 H0 s0 r0
    refine ⟨.ref D, p.at0, O, env, p.sim.up s0, ?_⟩
    cases e1 : ml env with
    | bad => simp only [e1] at q
    | exc c x => simp only [e1] at q; exact q
    | ok xs =>
      simp only [e1] at q
      intro vs H1 s1 r1
      have p1' := (p.up s0).up s1
      have hD1 := s1 _ _ (s0 _ _ g2)
      have c1 := p1'.sim.cor
      have da := r1.all c1
      rw [hj] at da
      show spM X.K nf f (V.ref D :: vs ++ []) H1 _ E
      rw [List.append_nil]
      refine ⟨by rw [List.length_cons, r1.lenF]; exact Nat.eq_of_beq_eq_true hn, c1.tabs, sset .p A O, D, is, vs, xs, rfl, .inl hA, hD1, fun a w => w.elim (c1.an' a) fun ⟨i, e⟩ => c1.oh i a e, da, ?_⟩
      cases e2 : f (.list (is.map .int) :: xs) with
      | bad => simp only [e2] at q
      | exc c x =>
        simp only [e2] at q
        refine fun H' d v sm hd e3 dv => q H' d v (fun a o w => ?_) ?_ e3 (dv.less fun a w => .inl w)
        · exact (c1.same a o w).trans fun o' h' => hide_tk hD1 sm (fun t => by rw [t, hB] at w; cases w) h'
        · by_cases hdD : d = D
          · rw [hdD]; exact hB
          · rw [hideD_ne hdD] at hd
            exact c1.bn hd
      | ok rr =>
        simp only [e2] at q
        cases e3 : setR rr with
        | none => simp only [e3] at q
        | some yp =>
          obtain ⟨y, ps⟩ := yp
          simp only [e3] at q
          cases e5 : fIx x y with
          | none => simp only [e5] at q
          | some zz =>
            simp only [e5] at q
            obtain ⟨is0, rfl, rfl⟩ := setR_some e3
            show RetM X.K (sset .p A O) (hideD D H1) D (.tuple [y, .list (is0.map .int)]) _
            intro v is' H' e4 sm hD' dv
            injection e4 with e4
            have pm := p1'.moved hA hB h0 hb sm hD'
            have r0' : Dv X.K H' (sset .p A O) v0 x := Dv.mono (fun a o n w => hide_tk hD1 sm (fun t => n (t ▸ .inl hA)) w) (fun a n _ => n) x (Dv.same r0 s1)
            refine o A B H' O v0 v x y zz _ pm.sim.cor r0' dv e5 fun v' H2 s2 r2 => ?_
            exact q v' is' H2 (by rw [← e4]) (pm.sim.cor.same.trans s2) (s2 _ _ hD') (VRel.ret (fl := .p) (rk := .p) (pm.sim.cor.up s2) rfl r2)
end
end PD
set_option maxHeartbeats 2000000
/-! PR 0: defs that may ask for repr: nothing is being shown while they run. -/
namespace PD
open PySem PySem.Spec PyProof.Rows L2 PySem.W
/-- as FnOk, where nothing is being shown -/
structure FnOkG (P : Program) (w : World) (K : PySem.W.Frag) (mg : Str → Option Value) (base : Heap) (CX : CXT) (k : Nat) (f : Addr) (fd : FuncData) (ps : List Str) (sp : Sp) : Prop where
  len : ∀ vs H Q E, sp vs H Q E → vs.length = ps.length
  run : ∀ (A : Around) (outer : List Env) (s : Shared) (H : Hp) (args : Args) (us : List Value) (vs : List V) (Q : VK) (E : XK), A.guards = some [] → Room k A → Env0 P w K mg base A outer s H → BindsTo s fd args (ps.zip us) → Vals vs us → sp vs H Q E →
    codeAny (model P w) A (.call (.ref f) args) (CR CX outer P w H s Q E) s
section
variable {X : Cx} {CX : CXT} {k : Nat} {f : Addr} {fd : FuncData} {ps : List Str} {sp : Sp} {dvs : List V} {ds : List Value} {E : XK} {x : Str} {p pos : Pos} {e : Expr} {es : List Expr} {t : TA}
theorem run_fnG {pins : List (Addr × Obj)} {σ : L2.St} {H : Hp} {s : Shared} {Q : VK} {us : List Value} {vs : List V} (hgd : X.A.guards = some []) (F : FnOkG X.prog X.w X.K X.mg X.base CX k f fd ps sp) (hr : Room k X.A) (hb : Binds X.K fd ps []) (hx : Passes CX X E)
    (I : Inv X pins σ H s) (r : Vals vs us) (h : sp vs H Q E) : wpAny (model X.prog X.w) X.A (call (.ref f) us) (EP X pins σ Q) X.xe s := by
  have hl : us.length = ps.length := r.length.symm.trans (F.len _ _ _ _ h)
  have bt := hb s us I.kIn (by rw [List.append_nil]; exact hl)
  rw [List.append_nil] at bt
  have cr := F.run X.A X.stack s H ⟨us, []⟩ us vs Q E hgd hr I.env0 bt r h
  refine wpAny_call (codeAny_mono cr fun res s2 hq => ?_)
  cases res with
  | error ev => exact hx pins σ H s ev s2 I hq
  | ok fl =>
    cases fl with
    | ret u => exact I.after hq
    | next => exact hq.elim
    | brk => exact hq.elim
    | cont => exact hq.elim
theorem pe_callG (hgd : X.A.guards = some []) (F : FnOkG X.prog X.w X.K X.mg X.base CX k f fd ps sp) (hr : Room k X.A) (hg : Gl X x) (hm : X.mg x = some (.ref f)) (hk : PySem.W.keepIn X.K (.ref f) = true) (hb : Binds X.K fd ps []) (hx : Passes CX X E)
    (ha : PA X (e :: es) t) (hdb : (x == ("__debug__" : Str)) = false := by decide) (he : starEach (e :: es) X.env = (false, eval e X.env) :: starEach es X.env := by rfl) (hpl : (backTo pos (starEach es X.env)).any (·.1) = false := by rfl) :
    PE X (.Call (.Name x p) (e :: es) [] pos) (tCall sp [] E t) := by
  refine ⟨fun pins s σ H Q I h => wpAny_Call_Name_kw (ld_glob I hg hm ?_ hdb)⟩
  refine PySem.W.callWith_K (h₀ := X.base) I.ok.mod.kin hk (thn (ha.run pos pins s σ H _ I h) fun us s1 ⟨vs, H1, I1, rv, q1⟩ => ⟨I1.kIn, ?_⟩) he hpl
  refine run_fnG hgd F hr hb hx I1 rv ?_
  have q2 : sp (vs ++ []) H1 Q E := q1
  rw [List.append_nil] at q2
  exact q2
end
section
variable {CX : CXT} {P : Program} {w : World} {K : PySem.W.Frag} {mg : Str → Option Value} {base : Heap} {k : Nat} {f : Addr} {name qual : Str} {params : Arguments} {body : List Stmt} {scope : Scope} {dV kV doc pm cdv ct oc : Value} {an od : Option Addr} {osl : Array (Option Value)} {N ps : List Str} {sp : Sp}
/-- such a def, by its body -/
theorem fn_ofG (lk : K.lookup f = some ⟨oc, od, .func (PySem.W.fnOf name qual params body scope dV kV doc pm an cdv ct), osl⟩) (hcd : PySem.W.codeIn K cdv qual = true) (S : FnScope N ps scope)
    (len : ∀ vs H Q E, sp vs H Q E → vs.length = ps.length)
    (hbody : ∀ (A : Around) (outer : List Env) (s : Shared) (H : Hp) (vs : List V) (Q : VK) (E : XK), A.guards = some [] → Room k (A.deeper (envOfC qual scope s.heap.objs.size f cdv)) → sp vs H Q E →
      ∃ t, PSs (cxOf CX P w K mg base N qual scope f cdv A outer s H E) body t ∧ t { nx := fun _ H' => Q .non H', rt := Q } (L2.start N vs) H) :
    FnOkG P w K mg base CX (k + 1) f (PySem.W.fnOf name qual params body scope dV kV doc pm an cdv ct) ps sp := by
  refine ⟨len, fun A outer s H args us vs Q E hgd hr e0 hb rv hsp => ?_⟩
  have kin1 : K.In s.heap := e0.mod.kin.keeps fun b o q => (e0.bs b o q).1
  have nl : s.heap.NoLimit := e0.mod.nolimit.keeps fun b o q => (e0.bs b o q).1
  have hpar : ∀ y ∈ ps.zip us, scope.names.lookup y.1 = some .local ∨ (scope.names.lookup y.1 = some .cell ∧ ((cellsFrom (s.heap.objs.size + 1) scope.names []).lookup y.1).isSome = true) := fun ⟨n, v⟩ hy =>
    (S.par n (List.of_mem_zip hy).1).imp id fun q => ⟨q, PySem.W.cellsFrom_some _ _ _ (.inl q)⟩
  refine codeAny_call_function hr.depth (kin1 _ _ lk) rfl S.co S.gen rfl (PySem.W.codeRec_of kin1 hcd) (hb _ _ _ _ (wpAny_newFunctionEnv_cells S.kind hpar fun env he s1 sx => ?_))
  subst he
  refine ⟨nl.keeps sx.toInCall.keep, codeAny_func ?_⟩
  obtain ⟨t, ht, hq⟩ := hbody A outer s H vs Q E hgd (hr.deeper _) hsp
  have J0 : Inv (cxOf CX P w K mg base N qual scope f cdv A outer s H E) [] (L2.start N vs) H s1 := inv_start S hr.hd e0 (len _ _ _ _ hsp) rv sx
  refine wpAny_mono (ht.run [] s1 (L2.start N vs) H _ J0 hq) (fun fl s2 hs => ?_) fun _ _ hs => hs
  cases fl with
  | ret u =>
    obtain ⟨v, _, H2, J, ru, q⟩ := hs
    exact ⟨v, H2, J.os, J.bare, J.base, J.hok, ru, q⟩
  | next =>
    obtain ⟨_, H2, J, q⟩ := hs
    exact ⟨V.non, H2, J.os, J.bare, J.base, J.hok, rfl, q⟩
  | brk => exact hs.elim fun _ z => z.elim fun _ z => z.2.elim
  | cont => exact hs.elim fun _ z => z.elim fun _ z => z.2.elim
end
theorem cx_guards {CX : CXT} {P : Program} {w : World} {K : PySem.W.Frag} {mg : Str → Option Value} {base : Heap} {N : List Str} {qual : Str} {scope : Scope} {f : Addr} {cd : Value} {A : Around} {outer : List Env} {s : Shared} {H : Hp} {E : XK} (h : A.guards = some []) : (cxOf CX P w K mg base N qual scope f cd A outer s H E).A.guards = some [] := h
/-! ### repr -/
def fRepr (x : PyData) : Option PyData := match pl x && x.showable && Nat.ble x.depth 20 && Nat.ble x.shown.length 4096 with
  | true => some (.str x.shown)
  | false => none
mutual
theorem pl_nodict : ∀ x : PyData, pl x = true → x.hasDict = false
  | .none, _ => by simp only [PyData.hasDict]
  | .bool _, _ => by simp only [PyData.hasDict]
  | .int _, _ => by simp only [PyData.hasDict]
  | .str _, _ => by simp only [PyData.hasDict]
  | .list xs, h => by simp only [PyData.hasDict]; exact pl_nodictAll xs h
  | .tuple xs, h => by simp only [PyData.hasDict]; exact pl_nodictAll xs h
  | .dict _, h => nomatch h
theorem pl_nodictAll : ∀ xs : List PyData, plAll xs = true → PyData.hasDictAll xs = false
  | [], _ => by simp only [PyData.hasDictAll]
  | x :: xs, h => by
    simp only [PyData.hasDictAll]
    rw [pl_nodict x (Bool.and_eq_true_iff.mp h).1, pl_nodictAll xs (Bool.and_eq_true_iff.mp h).2]
    rfl
end
section
variable {X : Cx} {Γ : List Kd} {A : Addr → Prop} {B : Hp} {E : XK} {a : Expr} {fa : Fl} {ma : ME} {p pos : Pos} {k : Nat}
def rRepr (K : PySem.W.Frag) : List V → Hp → VK → Prop := fun vs H Q => ∃ v x, vs = [v] ∧ Dp K H v x ∧ x.showable = true ∧ x.hasDict = false ∧ x.depth ≤ 20 ∧ x.shown.length ≤ 4096 ∧ Q (.str x.shown) H
theorem call_reprD (hgd : X.A.guards = some []) (hu : X.A.units + 100 < cLine) : CallR X (.builtin "repr") (rRepr X.K) := by
  intro pins s σ H vs us Q I r h
  obtain ⟨v, x, rfl, hd, hs, hn, hdp, hl, q⟩ := h
  obtain ⟨u, rfl, ru⟩ := vals1 r
  obtain ⟨as, rd⟩ := Dp.reads I x v u hd ru
  have hz : x.shown.length ≤ sizeLine := Nat.le_trans hl (by rw [sizeLine_eq]; decide)
  cases rd with
  | none => exact PySem.P.repr_of_none ⟨.str _, H, I.tok _, ⟨_, rfl⟩, by simpa only [PyData.shown] using q⟩
  | bool b => exact PySem.P.repr_of_bool ⟨.str _, H, I.tok _, ⟨_, rfl⟩, by simpa only [PyData.shown] using q⟩
  | int i t => exact PySem.P.repr_of_int (by simpa [PyData.showable] using hs) ⟨.str _, H, I.tok _, ⟨_, rfl⟩, by simpa only [PyData.shown] using q⟩
  | str y t => exact PySem.P.repr_of_str (hsz := by simpa only [PyData.shown] using hz) ⟨.str _, H, I.tok _, ⟨_, rfl⟩, by simpa only [PyData.shown] using q⟩
  | list h1 h2 h3 h4 => exact repr_of_reads' (.list h1 h2 h3 h4) hs (PyData.noDict_hsm hn) hgd (by omega) (fun _ _ e => e) (fun h' u' tk kp => ⟨.str _, H, I.kept (t' := tk) kp, ⟨_, rfl⟩, q⟩) hz
  | tuple h1 h2 h3 h4 => exact repr_of_reads' (.tuple h1 h2 h3 h4) hs (PyData.noDict_hsm hn) hgd (by omega) (fun _ _ e => e) (fun h' u' tk kp => ⟨.str _, H, I.kept (t' := tk) kp, ⟨_, rfl⟩, q⟩) hz
  | dict h1 h2 h3 h4 h5 => simp [PyData.hasDict] at hn
theorem j_repr (hgd : X.A.guards = some []) (z : Cz X E k) (hm : X.mg "repr" = none) (ha : PE X a (tE X.K Γ A B E fa ma)) (hg : Gl X "repr" := by rfl)
    (hs : starEach [a] X.env = (false, eval a X.env) :: starEach [] X.env := by rfl) (hpl : (backTo pos (starEach [] X.env)).any (·.1) = false := by rfl) :
    PE X (.Call (.Name "repr" p) [a] [] pos) (tE X.K Γ A B E .p (mOp1 fRepr ma)) := by
  have hP := pe_callB (pos := pos) (p := p) (call_reprD hgd z.hu) hg hm PyProof.Rows.bootS_repr (pa_cons ha pa_nil hs) (he := hs) (hpl := hpl)
  refine ⟨fun pins s σ H Q I ⟨O, env, m, q⟩ => hP.run pins s σ H Q I ⟨O, env, m, ?_⟩⟩
  unfold mOp1 at q
  cases e1 : ma env with
  | bad => rw [e1] at q; exact q
  | exc c x => rw [e1] at q; exact q
  | ok x =>
    rw [e1] at q
    intro v H1 s1 r1
    simp only [Res.bind] at q
    cases e2 : fRepr x with
    | none => simp only [e2, Res.opt] at q
    | some y =>
      simp only [e2, Res.opt] at q
      unfold fRepr at e2
      split at e2
      · rename_i hh
        cases e2
        simp only [Bool.and_eq_true] at hh
        obtain ⟨⟨⟨h1, h2⟩, h3⟩, h4⟩ := hh
        exact ⟨v, x, rfl, (r1.any (m.cor.up s1)).dpl h1, h2, pl_nodict x h1, Nat.le_of_ble_eq_true h3, Nat.le_of_ble_eq_true h4, q _ H1 s1 (.str _)⟩
      · cases e2
end
end PD
set_option maxHeartbeats 2000000
/-! PX 1: errors in hand: isinstance, .value. -/
namespace PD
open PySem PySem.Spec PyProof.Rows L2 PySem.W
/-- what a class of own errors must say -/
structure ExK (K : PySem.W.Frag) (C : Addr) : Prop where
  hg : PySem.W.findIn K (.ref C) "__getattribute__" = some (some (.builtin "BaseException.__getattribute__"))
  hk : PySem.W.findIn K (.ref C) "__getattr__" = some none
  hs : PySem.W.subIn K (.ref C) (.type "BaseException") = some true
  hd : PySem.W.hasDictIn K C = true
  ha : PySem.W.findIn K (.ref C) "__class__" = some (some (.builtin "object.__class__"))
  hn : PySem.W.specialIn K (.builtin "object.__class__") "__get__" = some (some (.builtin "getset_descriptor.__get__"))
  ht : PySem.W.takesIn K (.builtin "object.__class__") = some true
  hm : PySem.W.mroIn K C (.type "object") = some true
  hv : PySem.W.findIn K (.ref C) "value" = some none
def exkB (K : PySem.W.Frag) (C : Addr) : Bool :=
  decide (PySem.W.findIn K (.ref C) "__getattribute__" = some (some (.builtin "BaseException.__getattribute__"))) && decide (PySem.W.findIn K (.ref C) "__getattr__" = some none) && decide (PySem.W.subIn K (.ref C) (.type "BaseException") = some true) && PySem.W.hasDictIn K C &&
  decide (PySem.W.findIn K (.ref C) "__class__" = some (some (.builtin "object.__class__"))) && decide (PySem.W.specialIn K (.builtin "object.__class__") "__get__" = some (some (.builtin "getset_descriptor.__get__"))) && decide (PySem.W.takesIn K (.builtin "object.__class__") = some true) &&
  decide (PySem.W.mroIn K C (.type "object") = some true) && decide (PySem.W.findIn K (.ref C) "value" = some none)
theorem exk_by {K : PySem.W.Frag} {C : Addr} (h : exkB K C = true) : ExK K C := by
  unfold exkB at h
  simp only [Bool.and_eq_true, decide_eq_true_eq] at h
  obtain ⟨⟨⟨⟨⟨⟨⟨⟨h1, h2⟩, h3⟩, h4⟩, h5⟩, h6⟩, h7⟩, h8⟩, h9⟩ := h
  exact ⟨h1, h2, h3, h4, h5, h6, h7, h8, h9⟩
/-- isinstance(e, c2) over the classes cs of own errors -/
structure IsE (K : PySem.W.Frag) (c2 : Str) (cs : List Str) : Prop where
  non : PySem.W.kitOne K (.type "NoneType") (.ref (He.ga K c2)) = some false
  one : ∀ c ∈ cs, PySem.W.kitOne K (.ref (He.ga K c)) (.ref (He.ga K c2)) = some (decide (c = c2)) ∧ ExK K (He.ga K c)
def iseB (K : PySem.W.Frag) (c2 : Str) (cs : List Str) : Bool := decide (PySem.W.kitOne K (.type "NoneType") (.ref (He.ga K c2)) = some false) && cs.all fun c => decide (PySem.W.kitOne K (.ref (He.ga K c)) (.ref (He.ga K c2)) = some (decide (c = c2))) && exkB K (He.ga K c)
theorem ise_by {K : PySem.W.Frag} {c2 : Str} {cs : List Str} (h : iseB K c2 cs = true) : IsE K c2 cs := by
  unfold iseB at h
  simp only [Bool.and_eq_true, decide_eq_true_eq, List.all_eq_true] at h
  exact ⟨h.1, fun c hc => ⟨(h.2 c hc).1, exk_by (h.2 c hc).2⟩⟩
def fIsE (cs : List Str) (c2 : Str) : PyData → Option PyData
  | .none => some (.bool false)
  | .dict [(.str c, _)] => match cs.contains c with
    | true => some (.bool (decide (c = c2)))
    | false => none
  | _ => none
def fVal (cs : List Str) : PyData → Option PyData
  | .dict [(.str c, x)] => match cs.contains c with
    | true => some x
    | false => none
  | _ => none
theorem exd_inst {P : Program} {w : World} {K : PySem.W.Frag} {S : Addr → Prop} {H : Hp} {h : Heap} {a d : Addr} {c : Str} {v : V} (hok : HOk P w H h) (e : Exd K S H a d c v) :
    ∃ o od u, PySem.W.InstAt h a o (He.ga K c) (some od) ∧ PySem.W.lookIn "value" od = some (some u) ∧ L2.RelV v u := by
  obtain ⟨⟨_, h1⟩, _, h2⟩ := e
  obtain ⟨⟨o, vs, e1, e2, e3, e4⟩, _⟩ := hok a _ h1
  obtain ⟨mA, hns, hr⟩ := (show ObjOk P w H h d (.xd [(("value" : Str), v)]) from hok d _ h2)
  obtain ⟨od, ho, hl⟩ := lookIn_ns hns
  obtain ⟨u, hu, ru⟩ := RelO.some_of (v := v) (o := mA "value") (hr "value")
  refine ⟨o, od, u, ⟨e1, e2, by unfold PySem.W.notCls; rw [e4], by rw [e3]; exact ho⟩, ?_, ru⟩
  rw [hl, hu]
section
variable {X : Cx} {Γ : List Kd} {A : Addr → Prop} {B : Hp} {E : XK} {a : Expr} {fa : Fl} {ma : ME} {p pos : Pos} {k : Nat} {cs : List Str} {c2 : Str}
def rIsX (K : PySem.W.Frag) (cs : List Str) (c2 : Str) : List V → Hp → VK → Prop := fun vs H Q => ∃ v x z, vs = [v, .ref (He.ga K c2)] ∧ Dv K H (fun _ => False) v x ∧ fIsE cs c2 x = some z ∧ ∀ b, z = .bool b → Q (.bl b) H
theorem call_isX (F : IsE X.K c2 cs) : CallR X (.builtin "isinstance") (rIsX X.K cs c2) := by
  intro pins s σ H vs us Q I r h
  obtain ⟨v, x, z, rfl, hd, hf, q⟩ := h
  obtain ⟨u, u2, rfl, ru, ru2⟩ := vals2 r
  obtain rfl : u2 = Value.ref (He.ga X.K c2) := ru2
  unfold fIsE at hf
  split at hf
  · cases hf
    cases hd
    obtain rfl : u = Value.none := ru
    exact PySem.W.kia_one PySem.W.kitx_none I.kIn trivial F.non (fun z => nomatch z) fun tk => ⟨.bl false, H, I.tok tk, rfl, q _ rfl⟩
  · rename_i c y
    split at hf
    · rename_i hc
      cases hf
      cases hd with
      | exd h1 h2 =>
        obtain ⟨f1, f2⟩ := F.one c (by simpa using hc)
        obtain ⟨o, od, _, J, _⟩ := exd_inst I.hok h1
        cases (show u = Value.ref _ from ru)
        have hcl : (PySem.W.clsIn X.K (He.ga X.K c)).isSome = true := by
          obtain ⟨cd, hc, _⟩ := any_some f2.hd
          rw [hc]
          rfl
        exact PySem.W.kia_one (PySem.W.kitx_exc hcl f2.hg f2.hk f2.hs f2.ha f2.hn f2.ht f2.hm) I.kIn J f1 (fun z => nomatch z) fun tk => ⟨.bl _, H, I.kept (t' := tk) fun _ _ z => z, rfl, q _ rfl⟩
    · cases hf
  · cases hf
theorem j_isE {p2 : Pos} (F : IsE X.K c2 cs) (hm : X.mg "isinstance" = none) (hc2 : X.mg c2 = some (.ref (He.ga X.K c2))) (ha : PE X a (tE X.K Γ A B E fa ma)) (hg2 : Gl X c2 := by rfl) (hd2 : (c2 == ("__debug__" : Str)) = false := by decide) (hg : Gl X "isinstance" := by rfl)
    (hs : starEach [a, .Name c2 p2] X.env = (false, eval a X.env) :: starEach [.Name c2 p2] X.env := by rfl) (hs2 : starEach [.Name c2 p2] X.env = (false, eval (.Name c2 p2) X.env) :: starEach [] X.env := by rfl) (hpl : (backTo pos (starEach [.Name c2 p2] X.env)).any (·.1) = false := by rfl) :
    PE X (.Call (.Name "isinstance" p) [a, .Name c2 p2] [] pos) (tE X.K Γ A B E .p (mOp1 (fIsE cs c2) ma)) := by
  have hP := pe_callB (pos := pos) (p := p) (call_isX F) hg hm PyProof.Rows.boot_isinstance (pa_cons ha (pa_cons (pe_glob (v := .ref (He.ga X.K c2)) hg2 hc2 rfl hd2) pa_nil hs2) hs) (he := hs) (hpl := hpl)
  refine ⟨fun pins s σ H Q I ⟨O, env, m, q⟩ => hP.run pins s σ H Q I ⟨O, env, m, ?_⟩⟩
  unfold mOp1 at q
  cases e1 : ma env with
  | bad => rw [e1] at q; exact q
  | exc c x => rw [e1] at q; exact q
  | ok x =>
    rw [e1] at q
    intro v H1 s1 r1
    simp only [Res.bind] at q
    cases e2 : fIsE cs c2 x with
    | none => simp only [e2, Res.opt] at q
    | some y =>
      simp only [e2, Res.opt] at q
      exact ⟨v, x, y, rfl, r1.any (m.cor.up s1), e2, fun b hb => by subst hb; exact q _ H1 s1 (.bl b)⟩
/-- e.value -/
theorem j_val {pos : Pos} (F : ∀ c ∈ cs, ExK X.K (He.ga X.K c)) (hfa : fa = .p) (ha : PE X a (tE X.K Γ A B E fa ma)) (hb : attributeBase a "value" X.env (eval a X.env) = eval a X.env := by rfl) : PE X (.Attribute a "value" pos) (tE X.K Γ A B E .p (mOp1 (fVal cs) ma)) := by
  subst hfa
  refine ⟨fun pins s σ H Q I ⟨O, env, m, q⟩ => attr_of hb (thn (ha.run pins s σ H (fun v H1 => Same H H1 ∧ ∃ x, ma env = .ok x ∧ VRel X.K .p A B O H1 v x) I ⟨O, env, m, ?_⟩) fun u s1 ⟨v, H1, I1, ru, s1', x, e1, r1⟩ => ?_)⟩
  · unfold mOp1 at q
    cases e1 : ma env with
    | bad => rw [e1] at q; exact q
    | exc c x => rw [e1] at q; exact q
    | ok x => exact fun v H1 s1 r1 => ⟨s1, x, rfl, r1⟩
  · unfold mOp1 at q
    rw [e1] at q
    simp only [Res.bind] at q
    cases e2 : fVal cs x with
    | none => simp only [e2, Res.opt] at q
    | some y =>
      simp only [e2, Res.opt] at q
      unfold fVal at e2
      split at e2
      · rename_i c z
        split at e2
        · rename_i hc
          cases e2
          cases (show Dv X.K H1 (sset .p A O) v _ from r1) with
          | exd h1 h2 =>
            obtain ⟨o, od, w, J, hl, rw_⟩ := exd_inst I1.hok h1
            have T := F c (by simpa using hc)
            cases (show u = Value.ref _ from ru)
            exact HandSPX.exc_get I1.kIn J T.hg T.hk T.hs (PySem.W.findObj_own T.hd T.hv rfl hl) (handed_of rw_) ⟨_, H1, I1.tok _, rw_, q _ H1 s1' h2⟩
        · cases e2
      · cases e2
end
end PD
set_option maxHeartbeats 2000000
/-! PX 2: an error is caught and handed on. -/
namespace PD
open PySem PySem.Spec PyProof.Rows L2 PySem.W
section
variable {X : Cx} {pins : List (Addr × Obj)} {σ : L2.St} {H : Hp} {s : Shared}
/-- an object that was not known is known from now on -/
theorem known {a : Addr} {o : HO} (I : Inv X pins σ H s) (h0 : X.s_0.heap.get? a = none) (na : H a = none) (nL : a ≠ X.env.locals) (nc : ∀ x c, X.env.cells.lookup x = some c → c ≠ a) (np : ∀ p ∈ X.pn ++ pins, p.1 ≠ a) (new : ObjOk X.prog X.w (upd H a o) s.heap a o) :
    Inv X pins σ (upd H a o) s := by
  have ne : ∀ {b u}, H b = some u → b ≠ a := fun q => ne_of_none q na
  refine ⟨I.ok, I.os, I.bare, ⟨I.base.keep, I.base.slot, fun b u e n hx => ?_, I.base.there, fun b xs e => ?_, fun b u xs e => ?_, fun b ps e => ?_⟩, I.loc, I.cell, ?_, fun x c e => ?_, fun p hp => ?_, fun b u e => ?_, I.len⟩
  · rw [upd_ne fun z => by rw [z, h0] at e; cases e]
    exact I.base.free b u e n hx
  · have q := I.base.tups b xs e
    rw [upd_ne (ne q)]
    exact q
  · have q := I.base.frzs b u xs e
    rw [upd_ne (ne q)]
    exact q
  · obtain ⟨m, q⟩ := I.base.tbls b ps e
    exact ⟨m, by rw [upd_ne (ne q)]; exact q⟩
  · rw [upd_ne nL.symm]
    exact I.free
  · rw [upd_ne (nc x c e)]
    exact I.freeC x c e
  · obtain ⟨e, n, r⟩ := I.pin p hp
    exact ⟨e, by rw [upd_ne (np p hp)]; exact n, r⟩
  · by_cases hb : b = a
    · subst hb
      rw [upd_same] at e
      cases e
      exact new
    · rw [upd_ne hb] at e
      exact (I.hok b u e).stay (fun _ _ _ q => q) (fun c q => by rw [upd_ne (ne q)]; exact q) fun c xs q => by rw [upd_ne (ne q)]; exact q
end
/-- what is wished where 'except c as n: return n' looks -/
def wRet (K : PySem.W.Frag) (c : Value) (Wout : WX) (D : Ends) : WX := fun cls d σ H =>
  ∃ b, PySem.W.exmOne K cls c = some b ∧ (b = true → ∃ dd, d = some dd ∧ ∀ a, H a = none → D.rt (.ref a) (upd H a (ExcO a cls dd))) ∧ (b = false → Wout cls d σ H)
section
variable {X : Cx} {x n : Str} {c : Value} {i : Nat} {body : List Stmt} {np pos pos' p2 p3 : Pos} {tb : WX → TS} {Wout : WX}
theorem ps_try_ret (hex : X.ex = []) (hs : X.stack = X.env :: X.outer) (hf : X.env.frame = some X.env.locals) (hN : X.N.Nodup) (hi : X.N[i]? = some n) (hln : X.env.kindOf n = some .local) (hc : Names X x c) (hdb : (n == ("__debug__" : Str)) = false) (hcd : (n == ("__classdict__" : Str)) = false) (tk : Takes X Wout)
    (hb : ∀ (W : WX) (pn : List (Addr × Obj)) (xe : Value → Shared → Prop), Takes (X.tr pn xe) W → PassesOwn (model X.prog X.w) X.A X.env xe → PSs (X.tr pn xe) body (tb W)) :
    PS X (.Try body [.ExceptHandler (some (.Name x np)) (some n) [.Return (some (.Name n p2)) p3] pos'] [] [] pos) (fun D σ H => tb (wRet X.K c Wout D) D σ H) := by
  refine ⟨fun pins s σ H D I h => ?_⟩
  have ok := I.ok
  have afr : X.A.frames = some (X.env :: X.outer) := by rw [ok.frames, hs]
  have hloc : Loc X.env.scope n := .inl hln
  let hand : List ExceptHandler := [.ExceptHandler (some (.Name x np)) (some n) [.Return (some (.Name n p2)) p3] pos']
  have bd := hb (wRet X.K c Wout D) (X.pn ++ pins) (fun e s₁ => wpAny (model X.prog X.w) X.A (noteFrame e X.env) (fun _ s₂ => wpAny (model X.prog X.w) X.A (setFlight e none) (fun _ s₃ =>
    wpAny (model X.prog X.w) X.A (handleBy e X.env hand) (SP X pins D) X.xe s₃) X.xe s₂) X.xe s₁) (fun u s' xx => ?_) PassesOwn.looking
  · refine wpAny_Try_except (wpAny_mono (bd.run [] s σ H D (I.toTry _) h) (fun f s1 hsp => ?_) fun _ _ z => z)
    cases f with
    | next =>
      obtain ⟨σ', H', J', q⟩ := hsp
      exact wpAny_execs_nil ⟨σ', H', J'.ofTry ok, q⟩
    | ret u =>
      obtain ⟨v, σ', H', J', r, q⟩ := hsp
      exact ⟨v, σ', H', J'.ofTry ok, r, q⟩
    | brk =>
      obtain ⟨σ', H', J', q⟩ := hsp
      exact ⟨σ', H', J'.ofTry ok, q⟩
    | cont =>
      obtain ⟨σ', H', J', q⟩ := hsp
      exact ⟨σ', H', J'.ofTry ok, q⟩
  · obtain ⟨a, G, sI, pins', σ', H', cls, d, rfl, J', nb, up, sky, na, os, ag, b, hb1, hyes, hno⟩ := xx
    have J : Inv X pins σ' H' sI := J'.ofTry ok
    have sky' : Sky G (X.env :: X.outer) a (Zc cls d) X.env.locals s'.heap := by rw [← hs]; exact sky
    show wpAny (model X.prog X.w) X.A (noteFrame (.ref a) X.env) _ _ _
    refine Sky.land Zc.steady afr hf sky' fun h3 fl3 up3 => ?_
    have Ga : G.get? a = none := fl3.2.1
    have J3 : Inv X pins σ' H' { s' with heap := h3 } := J.landed nb fl3.1 (up.trans up3) os ag
    obtain ⟨oe3, vs3, he3, hz3, hd3⟩ := fl3.there
    have offFr : ∀ {h : Heap} {o : Obj} {vs : Array Value}, h.FunFrames G (X.env :: X.outer) → h.get? a = some o → o.data = .fields vs → a ∉ frs (X.env :: X.outer) := fun {h o vs} ff e dd hm => by
      obtain ⟨_, o2, e2, hnf⟩ := ff.mem hm
      rw [e] at e2
      cases e2
      exact hnf _ dd
    have nfr := offFr fl3.2.2.1 he3 hd3
    have nL : a ≠ X.env.locals := fun z => nfr (List.mem_filterMap.mpr ⟨X.env, List.mem_cons_self, by rw [hf, z]⟩)
    have nF : a ∉ X.fs := fun hm => by
      obtain ⟨ev, hev, q⟩ := List.mem_filterMap.mp hm
      exact nfr (List.mem_filterMap.mpr ⟨ev, List.mem_cons_of_mem _ hev, q⟩)
    have old : ∀ b o, sI.heap.get? b = some o → b ∉ frs X.stack → b ≠ a := fun b o e hn z => by
      have w := nb b o e hn
      rw [z, Ga] at w
      cases w
    have a0 : X.s_0.heap.get? a = none := by
      cases e : X.s_0.heap.get? a with
      | none => rfl
      | some o =>
        obtain ⟨o', e'⟩ := J.base.there a o e (by rw [hex]; simp)
        exact absurd rfl (old a o' e' (by rw [hs]; exact nfr))
    have nPin : ∀ p ∈ X.pn ++ pins, p.1 ≠ a := fun p hp => by
      obtain ⟨e, _, q1, q2, _⟩ := J.pin p hp
      exact old _ _ e fun z => (List.mem_cons.mp (J.stkSub _ z)).elim q1 q2
    have S3 := J3.suite he3 hd3 na nL nF
    refine wpAny_handleBy_cons (codeAny_handlers_test ?_) (by intro q; cases q)
    have LT : PySem.W.Looks (model X.prog X.w) h3 (typeOf (.ref a)) cls := fun A2 Q2 E2 s2 kk q => wpAny_typeOf_ref (kk _ _ he3) (by rw [hz3.1]; exact q)
    have LM := PySem.W.exm_one (M := model X.prog X.w) (J3.kIn) LT hb1
    have test : ∀ {Q E : Value → Shared → Prop}, Q c { s' with heap := h3 } → wpAny (model X.prog X.w) (X.A.mark (some (.ref a))) (eval (.Name x np) X.env) Q E { s' with heap := h3 } := fun {Q E} q => by
      obtain ⟨hg, hdbg, hm | ⟨hm, hv, hnn⟩⟩ := hc
      · exact ld_glob (X := X.suite a ((a, oe3) :: (X.pn ++ pins))) S3 hg hm q hdbg
      · exact ld_blt (X := X.suite a ((a, oe3) :: (X.pn ++ pins))) S3 hg hm hv q hnn hdbg
    refine test (LM.here ?_)
    cases b with
    | true =>
      refine codeAny_handlers_suite_as (HandSPX.lands_againZ fl3 fun h4 fl4 up4 => ?_)
      have J4 : Inv X pins σ' H' { s' with heap := h4 } := J.landed nb fl4.1 ((up.trans up3).trans up4) os ag
      obtain ⟨oe4, vs4, he4, hz4, hd4⟩ := fl4.there
      have S4 := J4.suite he4 hd4 na nL nF
      refine store_ok (X := X.suite a ((a, oe4) :: (X.pn ++ pins))) (v := .ref a) S4 hN hi hloc rfl (fun s5 S5 => ?_) (.inr hln)
      have ret1 : PSs (X.suite a ((a, oe4) :: (X.pn ++ pins))) [.Return (some (.Name n p2)) p3] (tRet (tVar i)) := pss_one (ps_ret (pe_var hi (.inl hln) hdb hcd))
      refine wpAny_mono (ret1.run [] s5 _ H' { nx := fun _ _ => False, rt := fun v H2 => v = .ref a ∧ H2 = H', bk := fun _ _ => False, ct := fun _ _ => False } S5 ⟨.ref a, List.getElem?_set_self (by rw [J.len]; exact (List.getElem?_eq_some_iff.mp hi).1), rfl, rfl⟩) (fun f s6 hsp => ?_) fun _ _ z => False.elim z
      cases f with
      | next => obtain ⟨_, _, _, q6⟩ := hsp; exact q6.elim
      | brk => obtain ⟨_, _, _, q6⟩ := hsp; exact q6.elim
      | cont => obtain ⟨_, _, _, q6⟩ := hsp; exact q6.elim
      | ret u =>
        obtain ⟨v6, σ6, H6, S6, r6, e6, eH⟩ := hsp
        subst e6
        subst eH
        obtain ⟨dd, hdd, hy⟩ := hyes rfl
        subst hdd
        have J6 : Inv X ((a, oe4) :: pins) σ6 H6 s6 := ⟨ok, S6.os, S6.bare, S6.base, S6.loc, S6.cell, S6.free, S6.freeC, fun p hp => S6.pin p (by
          refine List.mem_append_left _ ?_
          rcases List.mem_append.mp hp with z | z
          · exact List.mem_cons_of_mem _ (List.mem_append_left _ z)
          · rcases List.mem_cons.mp z with z | z
            · rw [z]; exact List.mem_cons_self
            · exact List.mem_cons_of_mem _ (List.mem_append_right _ z)), S6.hok, S6.len⟩
        refine gone_ok J6 hN hi hln fun s7 J7 => ?_
        obtain ⟨e7, n7, l7, f7, c7⟩ := J7.pin (a, oe4) (List.mem_append_right _ List.mem_cons_self)
        have J8 : Inv X pins (σ6.set i none) H6 s7 := ⟨J7.ok, J7.os, J7.bare, J7.base, J7.loc, J7.cell, J7.free, J7.freeC, fun p hp => J7.pin p (by
          rcases List.mem_append.mp hp with z | z
          · exact List.mem_append_left _ z
          · exact List.mem_append_right _ (List.mem_cons_of_mem _ z)), J7.hok, J7.len⟩
        refine ⟨.ref a, _, _, known (o := ExcO a cls dd) J8 a0 n7 l7 (fun y cc hcc z => ?_) nPin (show ObjOk X.prog X.w _ s7.heap a (ExcO a cls dd) from ⟨⟨oe4, vs4, e7, hz4.1, hz4.2, hd4⟩, ⟨_, e7⟩, fun h1 h2 ⟨o, vs, e, r⟩ st => ⟨o, vs, st _ e, r⟩⟩), r6, hy a na⟩
        obtain ⟨v, o, ho, hod⟩ := J7.cell y cc hcc
        rw [z, e7] at ho
        cases ho
        rw [hd4] at hod
        cases hod
    | false =>
      show wpAny _ X.A (handleBy (.ref a) X.env []) _ _ _
      refine wpAny_handleBy_nil ?_
      obtain ⟨k1, k2, k3, oe, vs, T, oT, ts2, he, hz, hd, h1, hr⟩ := id fl3
      unfold PySem.passOn
      refine wpAny_bind (wpAny_field he hd h1 ?_)
      rw [if_neg (show ¬ ((Value.ref T == Value.none) = true) from by simp)]
      have over : wpAny (model X.prog X.w) X.A (setFlight (.ref a) X.env.frame) (fun _ s4 => wpAny (model X.prog X.w) X.A (throw (.ref a) : Sem Flow) (SP X pins D) X.xe s4) X.xe { s' with heap := h3 } := by
        rw [hf]
        exact HandSPX.setFlight_upZ fl3 fun h4 hh4 up4 => wpAny_throw (tk _ _ ⟨a, G, sI, pins, σ', H', cls, d, rfl, J, nb, (up.trans up3).trans up4, .inr (.inr (by rw [hs]; exact hh4)), na, os, ag, hno rfl⟩)
      first
        | exact wpAny_bind (wpAny_pure (wpAny_bind over))
        | exact wpAny_bind over
end
end PD
set_option maxHeartbeats 2000000
/-! PX 3: try: e / except C as n: return n. -/
namespace PD
open PySem PySem.Spec PyProof.Rows L2 PySem.W
def mCaught (cs : List Str) (a : ME) : MS := fun env => match a env with
  | .ok _ => .ok (.next env)
  | .exc c x => match cs.contains c with
    | true => .ok (.ret (.dict [(.str c, x)]))
    | false => .bad
  | .bad => .bad
/-- what is wished of an error in the body -/
def eRet (K : PySem.W.Frag) (c : Value) (D : Ends) : XK := fun cls d H => PySem.W.exmOne K cls c = some true ∧ ∃ dd, d = some dd ∧ ∀ a, H a = none → D.rt (.ref a) (upd H a (ExcO a cls dd))
section
variable {X : Cx} {Γ : List Kd} {A : Addr → Prop} {B : Hp} {E : XK} {e : Expr} {fl : Fl} {a : ME} {k i : Nat} {x n : Str} {cv : Value} {np p0 pos pos' p2 p3 : Pos} {cs : List Str}
theorem Sim.uncut {K : PySem.W.Frag} {O O' : Ow} {H H' : Hp} {env env' : En} {σ σ' : L2.St} (m0 : Sim K Γ A B O H env σ) (m : Sim K Γ A (PD.cut O H) O' H' env' σ') : Sim K Γ A B O' H' env' σ' := by
  have sc := same_cut m0.cor m0.lists
  have c := m.cor
  refine ⟨⟨sc.trans c.same, c.an', c.ao', fun j b e => ?_, c.oh, c.inj, c.tabs⟩, m.len, m.lenS, m.slot, m.owns⟩
  cases q : B b with
  | none => rfl
  | some o => exact absurd (c.ob j b e) (sc b o q).some
theorem s_caught (z : Cz X E k) (hex : X.ex = []) (hs : X.stack = X.env :: X.outer) (hf : X.env.frame = some X.env.locals) (hN : X.N.Nodup) (hi : X.N[i]? = some n) (hln : X.env.kindOf n = some .local) (hc : Names X x cv)
    (hcs : ∀ c ∈ cs, PySem.W.exmOne X.K (.ref (He.ga X.K c)) cv = some true)
    (h : ∀ (B : Hp) (E' : XK) (pn : List (Addr × Obj)) (xe : Value → Shared → Prop), Cz (X.tr pn xe) E' k → PE (X.tr pn xe) e (tE X.K Γ A B E' fl a))
    (hsw : ∀ (pn : List (Addr × Obj)) (xe : Value → Shared → Prop), swapsWith e none p0.line (X.tr pn xe).env = pure false) (hdb : (n == ("__debug__" : Str)) = false := by decide) (hcd : (n == ("__classdict__" : Str)) = false := by decide) :
    PS X (.Try [.Expr e p0] [.ExceptHandler (some (.Name x np)) (some n) [.Return (some (.Name n p2)) p3] pos'] [] [] pos) (tS X.K Γ Γ A B E .p (mCaught cs a)) := by
  refine ⟨fun pins s σ H D I ⟨O, env, si, q⟩ => ?_⟩
  have hP := ps_try_ret (pos := pos) (pos' := pos') (np := np) (p2 := p2) (p3 := p3) (body := [.Expr e p0]) (Wout := fun _ _ _ _ => False) (tb := fun W D2 σ2 H2 => ∃ (B' : Hp) (E' : XK), (∀ cls d σ H, E' cls d H → W cls d σ H) ∧ tS X.K Γ Γ A B' E' .p (mDrop a) D2 σ2 H2)
    hex hs hf hN hi hln hc hdb hcd (fun u s' ⟨_, _, _, _, _, _, _, _, _, _, _, _, _, _, _, _, w⟩ => w.elim) (fun W pn xe tk pas => ⟨fun pins s σ H D I ⟨B', E', hW, w⟩ => by
      have z' : Cz (X.tr pn xe) E' k := ⟨z.room, z.calm, fun pins σ H s e s' I c => tk e s' (XE.of_call I (fun cls d H' w => hW cls d σ H' w) c)⟩
      have p1 : PS (X.tr pn xe) (.Expr e p0) (tS (X.tr pn xe).K Γ Γ A B' E' .p (mDrop a)) := s_drop (h B' E' pn xe z') (hsw pn xe)
      exact (pss_one p1).run pins s σ H D I w⟩)
  refine hP.run pins s σ H D I ⟨PD.cut O H, eRet X.K cv D, fun cls d σ H w => ⟨true, w.1, fun _ => w.2, fun z => nomatch z⟩, O, env, si.cut, ?_⟩
  have cr := si.cor
  have sc := same_cut cr si.lists
  unfold mCaught at q
  unfold mDrop
  cases e1 : a env with
  | bad => rw [e1] at q; exact q
  | ok y =>
    rw [e1] at q
    exact fun O' σ' H' st m' => q O' σ' H' st (si.uncut m')
  | exc c y =>
    rw [e1] at q
    simp only at q
    cases e2 : cs.contains c with
    | false => simp only [e2] at q
    | true =>
      simp only [e2] at q
      intro H1 d v s1 hd e3 dv
      refine ⟨hcs c (by simpa using e2), d, rfl, fun b hb => ?_⟩
      have nA : ∀ b, PD.cut O H b = none → ¬ A b := fun b w t => by
        rw [cut_ne (cr.ao' b t)] at w
        exact cr.an' b t w
      have nb : PD.cut O H b = none := by
        cases w : PD.cut O H b with
        | none => rfl
        | some o => exact absurd hb (s1 b o w).some
      have s2 : Same H1 (upd H1 b (ExcO b (.ref (He.ga X.K c)) d)) := laid_same hb
      have nd : d ≠ b := ne_of_none e3 hb
      refine q _ _ ((sc.trans s1).trans s2) (Dv.exd ⟨⟨nA b nb, upd_same⟩, nA d hd, ?_⟩ (dv.same s2))
      rw [upd_ne nd]
      exact e3
end
end PD
set_option maxHeartbeats 2000000
/-! PX 4: dicts of truth values by written texts. -/
namespace PD
open PySem PySem.Spec PyProof.Rows L2 PySem.W
def mBools : List (Str × ME) → En → Res (List Bool)
  | [], _ => .ok []
  | p :: r, env => (p.2 env).bind fun x => (Res.opt (asB x)).bind fun b => (mBools r env).bind fun bs => .ok (b :: bs)
def nodupB : List Str → Bool
  | [] => true
  | k :: ks => !ks.contains k && nodupB ks
def mDisp (l : List (Str × ME)) : ME := fun env => (mBools l env).bind fun bs => match nodupB (l.map (·.1)) && Nat.ble l.length 15 with
  | true => .ok (.dict [(.tuple [], .tuple (.list ((l.map (·.1)).map .str) :: bs.map .bool))])
  | false => .bad
theorem putK_new {kvs : List (Key × V)} {k : Key} {v : V} (h : k ∉ kvs.map (·.1)) : putK kvs k v = kvs ++ [(k, v)] := by
  unfold putK
  rw [if_neg]
  intro z
  obtain ⟨p, hp, e⟩ := List.any_eq_true.mp z
  exact h (List.mem_map.mpr ⟨p, hp, by simpa using e⟩)
theorem merge_new : ∀ (more acc : List (Key × V)), (more.map (·.1)).Nodup → (∀ k ∈ more.map (·.1), k ∉ acc.map (·.1)) → mergeK acc more = acc ++ more
  | [], acc, _, _ => by simp [mergeK]
  | p :: r, acc, hn, hd => by
    rw [List.map_cons, List.nodup_cons] at hn
    show mergeK (putK acc p.1 p.2) r = _
    rw [putK_new (hd p.1 (by simp)), merge_new r _ hn.2, List.append_assoc]
    · rfl
    · intro k hk z
      rw [List.map_append, List.mem_append] at z
      rcases z with z | z
      · exact hd k (by rw [List.map_cons]; exact List.mem_cons_of_mem _ hk) z
      · simp at z
        rw [z] at hk
        exact hn.1 hk
theorem nodup_by : ∀ {ks : List Str}, nodupB ks = true → (ks.map (Sum.inr : Str → Key)).Nodup
  | [], _ => List.nodup_nil
  | k :: ks, h => by
    unfold nodupB at h
    rw [Bool.and_eq_true, Bool.not_eq_true'] at h
    rw [List.map_cons, List.nodup_cons]
    refine ⟨fun z => ?_, nodup_by h.2⟩
    obtain ⟨j, hj, e⟩ := List.mem_map.mp z
    cases e
    have q := h.1
    rw [List.contains_eq_mem, decide_eq_false_iff_not] at q
    exact q hj
theorem bls_dv {K : PySem.W.Frag} {H : Hp} {S : Addr → Prop} : ∀ bs : List Bool, DvAll K H S (bs.map V.bl) (bs.map PyData.bool)
  | [] => .nil
  | b :: bs => .cons (.bl b) (bls_dv bs)
theorem mBools_len : ∀ {l : List (Str × ME)} {env : En} {bs : List Bool}, mBools l env = .ok bs → bs.length = l.length
  | [], _, _, h => by cases h; rfl
  | p :: r, env, bs, h => by
    unfold mBools at h
    obtain ⟨x, _, h⟩ := bind_ok h
    obtain ⟨b, _, h⟩ := bind_ok h
    obtain ⟨cs, h1, h⟩ := bind_ok h
    cases h
    rw [List.length_cons, List.length_cons, mBools_len h1]
section
variable {X : Cx} {Γ : List Kd} {A : Addr → Prop} {B : Hp} {E : XK} {O : Ow} {env : En} {σ : L2.St} {pos : Pos} {k : Nat} {keys : List (Option Expr)} {values : List Expr}
abbrev trsOf (K : PySem.W.Frag) (Γ : List Kd) (A : Addr → Prop) (B : Hp) (E : XK) (l : List (Str × ME)) : List (TE × TE) := l.map fun p => (tC (.str p.1), tE K Γ A B E .p p.2)
theorem pairs_imp : ∀ (l : List (Str × ME)) (H : Hp) (Q : List (V × V) → Hp → Prop), Sim X.K Γ A B O H env σ →
    (match mBools l env with
      | .ok bs => ∀ H', Same H H' → Q (((l.map (·.1)).map V.str).zip (bs.map V.bl)) H'
      | .exc c x => XOk X.K A B E c x
      | .bad => False) → tPairs (trsOf X.K Γ A B E l) σ H Q
  | [], H, Q, m, h => h H (Same.refl H)
  | p :: r, H, Q, m, h => by
    unfold mBools at h
    refine ⟨O, env, m, ?_⟩
    cases e1 : p.2 env with
    | bad => rw [e1] at h; exact h
    | exc c x => rw [e1] at h; exact h
    | ok x =>
      rw [e1] at h
      simp only [Res.bind] at h
      intro v H1 s1 r1
      cases x with
      | bool b =>
        simp only [asB, Res.opt] at h
        cases (show Dv X.K H1 (sset .p A O) v (.bool b) from r1)
        refine pairs_imp r H1 _ (m.up s1) ?_
        cases e2 : mBools r env with
        | bad => simp only [e2] at h
        | exc c x => simp only [e2] at h; exact h
        | ok bs =>
          simp only [e2] at h
          exact fun H' s2 => h H' (s1.trans s2)
      | _ => simp only [asB, Res.opt] at h
theorem j_disp (l : List (Str × ME)) (h : PPs X pos keys values (trsOf X.K Γ A B E l)) (hall : keys.all (·.isSome) = true := by rfl) (hl : keys.length = values.length := by rfl) (h0 : keys ≠ [] := by simp) (h15 : keys.length ≤ 15 := by decide) :
    PE X (.Dict keys values pos) (tE X.K Γ A B E .p (mDisp l)) := by
  refine ⟨fun pins s σ H Q I ⟨O, env, m, q⟩ => (pe_disp h hall hl h0 h15).run pins s σ H Q I fun p hp => ?_⟩
  have s0 : Same H (upd H p (.dK [])) := laid_same hp
  refine pairs_imp l _ _ (m.up s0) ?_
  unfold mDisp at q
  cases e1 : mBools l env with
  | bad => rw [e1] at q; exact q
  | exc c x => rw [e1] at q; exact q
  | ok bs =>
    rw [e1] at q
    simp only [Res.bind] at q
    intro H2 s2
    have e2 := s2 p _ upd_same
    have hl2 := mBools_len e1
    cases e3 : nodupB (l.map (·.1)) && Nat.ble l.length 15 with
    | false => simp only [e3] at q
    | true =>
      simp only [e3] at q
      obtain ⟨h1, h2⟩ := Bool.and_eq_true_iff.mp e3
      have hks : (((l.map (·.1)).map (Sum.inr : Str → Key)).zip (bs.map V.bl)).map (·.1) = (l.map (·.1)).map Sum.inr := by
        rw [List.map_fst_zip]
        rw [List.length_map, List.length_map, List.length_map, hl2]
        exact Nat.le_refl _
      have hmg : mergeK [] (((l.map (·.1)).map (Sum.inr : Str → Key)).zip (bs.map V.bl)) = ((l.map (·.1)).map (Sum.inr : Str → Key)).zip (bs.map V.bl) := by
        have z := merge_new (((l.map (·.1)).map (Sum.inr : Str → Key)).zip (bs.map V.bl)) [] (by rw [hks]; exact nodup_by h1) (fun k _ w => by cases w)
        rw [z, List.nil_append]
      refine ⟨e2, ((l.map (·.1)).map (Sum.inr : Str → Key)).zip (bs.map V.bl), ?_, ?_, ?_⟩
      · rw [List.map_zip_eq_zipWith]
        apply List.ext_getElem?
        intro i
        simp only [List.getElem?_zip_eq_some, List.getElem?_zipWith, List.getElem?_map, List.zip, List.getElem?_zipWith]
        cases l[i]? <;> cases bs[i]? <;> simp [kV]
      · rw [List.length_zip, List.length_map, List.length_map, List.length_map, hl2, Nat.min_self]
        exact Nat.le_of_ble_eq_true h2
      · rw [hmg]
        have s3 : Same H (upd H2 p (.dK (((l.map (·.1)).map (Sum.inr : Str → Key)).zip (bs.map V.bl)))) := fun b o e => by
          have nb : b ≠ p := ne_of_none e hp
          have w := (s0.trans s2) b o e
          refine w.trans fun o' e' => .of (by rw [upd_ne nb]; exact e') fun q t => ?_
          obtain ⟨ps, t1, t2, t3⟩ := t
          refine ⟨ps, by rw [upd_ne (fun z => by rw [z, e2] at t1; cases t1)]; exact t1, t2, fun pos cv hc => ?_⟩
          obtain ⟨c, g1, g2⟩ := t3 pos cv hc
          exact ⟨c, g1, by rw [upd_ne (fun z => by rw [z, e2] at g2; unfold LamX.CodeO at g2; cases g2)]; exact g2⟩
        refine q _ _ s3 (Dv.dct rfl ⟨fun z => ?_, upd_same, ?_⟩ (bls_dv bs))
        · exact z.elim (m.cor.an hp) (m.cor.on hp)
        · rw [List.length_map, List.length_map, hl2]

/-! ### d[k] -/
def lookD : List PyData → List PyData → Str → Option PyData
  | .str k' :: ks, d :: ds, k => match decide (k' = k) with
    | true => some d
    | false => lookD ks ds k
  | _, _, _ => none
def fGetD : PyData → PyData → Option PyData
  | .dict [(.tuple [], .tuple (.list ks :: ds))], .str k => lookD ks ds k
  | _, _ => none
theorem lookD_ok {K : PySem.W.Frag} {H : Hp} {S : Addr → Prop} {k : Str} {d : PyData} : ∀ (ks : List Str) (vs : List V) (ds : List PyData), DvAll K H S vs ds → lookD (ks.map .str) ds k = some d → ∃ v, valV ((ks.map (Sum.inr : Str → Key)).zip vs) (.inr k) = some v ∧ Dv K H S v d
  | [], _, _, _, e => by cases e
  | k' :: ks, _, _, .nil, e => by cases e
  | k' :: ks, v :: vs, d' :: ds, .cons h1 h2, e => by
    simp only [List.map_cons, lookD] at e
    by_cases hk : k' = k
    · subst hk
      simp only [decide_true] at e
      cases e
      exact ⟨v, valV_pos rfl, h1⟩
    · rw [decide_eq_false hk] at e
      simp only at e
      obtain ⟨w, e1, e2⟩ := lookD_ok ks vs ds h2 e
      refine ⟨w, ?_, e2⟩
      rw [List.map_cons, List.zip_cons_cons, valV_neg (fun z => hk (Sum.inr.inj z))]
      exact e1
theorem j_dget {o i : Expr} {fa fb : Fl} {ma mb : ME} (z : Cz X E k) (hfa : fa = .p) (ha : PE X o (tE X.K Γ A B E fa ma)) (hb : PE X i (tE X.K Γ A B E fb mb)) (hs : NoSl i := by exact fun _ _ => rfl) : PE X (.Subscript o i pos) (tE X.K Γ A B E .p (mOp2 fGetD ma mb)) := by
  subst hfa
  refine ⟨fun pins s σ H Q I ⟨O, env, m, q⟩ => (pe_dget (pos := pos) (by have := z.hu; omega) ha hb hs).run pins s σ H Q I ⟨O, env, m, ?_⟩⟩
  unfold mOp2 at q
  cases e1 : ma env with
  | bad => rw [e1] at q; exact q
  | exc c x => rw [e1] at q; exact q
  | ok x =>
    rw [e1] at q
    simp only [Res.bind] at q
    intro v H1 s1 r1
    refine ⟨O, env, m.up s1, ?_⟩
    cases e2 : mb env with
    | bad => simp only [e2] at q
    | exc c y => simp only [e2] at q; exact q
    | ok y =>
      simp only [e2] at q
      intro u H2 s2 r2
      cases e3 : fGetD x y with
      | none => simp only [e3, Res.opt] at q
      | some w =>
        simp only [e3, Res.opt] at q
        unfold fGetD at e3
        split at e3
        · rename_i ks ds kk
          cases (show Dv X.K H2 (sset .p A O) v _ from VRel.same r1 s2) with
          | dct h0 h1 h2 =>
            cases h0
            cases r2.any (m.cor.up (s1.trans s2))
            obtain ⟨v2, g1, g2⟩ := lookD_ok _ _ _ h2 e3
            exact ⟨_, v2, rfl, by rw [← g1]; exact DGet.k (k := .inr kk) h1.2.1, q v2 H2 (s1.trans s2) g2⟩
        · cases e3
end
end PD
set_option maxHeartbeats 2000000
/-! PL 1: a comprehension whose element is told where the block starts. -/
namespace PD
open PySem PySem.Spec PyProof.Rows L2 PySem.W
section
variable {X : Cx} {pins : List (Addr × Obj)} {σ : L2.St} {H : Hp} {s : Shared} {Q : VK} {elt tg iter : Expr} {scope : Scope} {own : List (Str × Nat)} {pos : Pos} {wi : TI} {g : TG} {te : TE}
abbrev cenvOf (X : Cx) (scope : Scope) (t : Shared) : Env := compEnvC scope (cellsFrom (t.heap.objs.size + 1) scope.names (cloFrom X.env.cells scope.names [])) t.heap.objs.size X.env
/-- a block of X that starts where X stands, its iterator's objects off the cells of X -/
structure BlkAt (X : Cx) (pins : List (Addr × Obj)) (σ : L2.St) (t : Shared) (G : Hp) (fp : List Addr) : Prop where
  inv : Inv X pins σ G t
  off : ∀ b ∈ fp, ∀ x c, X.env.cells.lookup x = some c → c ≠ b
theorem lc_told (hcalm : X.calm = true) (hN : X.N.Nodup) (I : Inv X pins σ H s) (hi : PI X tg iter wi) (ok : BlkOk X.N X.env.scope scope own)
    (hg : ∀ (t : Shared) (G : Hp) (C : Addr) (cl : List (Str × Addr)) (fp : List Addr), PG (X.blk t G scope (compEnvC scope cl C X.env) fp) tg g)
    (he : ∀ (t : Shared) (G : Hp) (C : Addr) (cl : List (Str × Addr)) (fp : List Addr), BlkAt X pins σ t G fp → PE (X.blk t G scope (compEnvC scope cl C X.env) fp) elt te) (hs : ∀ x, foldedSetIterable iter X.env x = pure x)
    (h : tLc wi g tYes te (own.map (·.2)) σ H Q) : wpAny (model X.prog X.w) X.A (eval (.ListComp elt [⟨tg, iter, [], 0⟩] scope pos) X.env) (EP X pins σ Q) X.xe s := by
  rw [eval_ListComp]
  have hfr : ∀ y ∈ scope.names, y.2 = .free → ∃ c, X.env.cells.lookup y.1 = some c := fun y hy e => (ok.free y hy e).elim (fun k => I.ok.has _ (.inl k)) fun k => I.ok.has _ (.inr k)
  have run1 := hi.run pins s σ H _ I h
  refine wpAny_comprehension_free (use := none) rfl hs (closure_ok hfr) ok.kind (fun y hy e => by rw [ok.uniq y hy, e]) (thn run1 fun xv sA hx => thn hx fun itv sB hB => ?_)
  obtain ⟨it, fp, tn, J, HB, rfl, JB, T, stB, fB, q⟩ := hB
  refine wpAny_newObj_type (newEnv_comp ?_) (by show 0 ≤ sizeLine; decide)
  generalize hd : sB.heap.objs.size = L0
  obtain ⟨W, ⟨m0, w0⟩, lap⟩ := q L0 (JB.hok.fresh (Nat.le_of_eq hd))
  generalize eC : ({ sB with heap := sB.heap.push { cls := .type "list", data := .seq ([] : List Value).toArray } } : Shared) = sC
  have hpC : sC.heap = sB.heap.push { cls := .type "list", data := .seq ([] : List Value).toArray } := by rw [← eC]
  generalize eH : upd HB L0 (.lst []) = HC at w0
  have JC : Inv X pins σ HC sC := by
    rw [← eC, ← eH]
    exact JB.laid (t' := sB.toks) (fun b o e => Heap.get?_push_of_some _ e) (Nat.le_of_eq hd) ⟨Nat.zero_le _, [], 0, .nil, by rw [← hd]; exact Heap.get?_push_size _ rfl⟩
  have hlt : ∀ b ∈ fp, b < sB.heap.objs.size := fun b hb => (T.obj _ _ stB b hb).elim fun o e => Heap.lt_size e.1
  have fC : ∀ b ∈ fp, FpOk X pins HC b ∧ b < sC.heap.objs.size := fun b hb => by
    refine ⟨⟨?_, (fB b hb).2⟩, by rw [hpC, Heap.size_push]; exact Nat.lt_succ_of_lt (hlt b hb)⟩
    rw [← eH, upd_ne (by rw [← hd]; exact Nat.ne_of_lt (hlt b hb))]
    exact (fB b hb).1
  have start := block_start JC ok hN fC
  let Y : Cx := X.blk sC HC scope (cenvOf X scope sC) fp
  have pgg : PG Y tg g := hg sC HC _ _ fp
  have pee : PE Y elt te := he sC HC _ _ fp ⟨JC, fun b hb => (fC b hb).1.2.2.2.2.1⟩
  generalize eD : ({ sC with heap := pushCells (sC.heap.push { cls := .type "dict", data := .dict #[] }) scope.names } : Shared) = sD at start
  show codeAny _ _ (.compStart (.ListComp elt [⟨tg, iter, [], 0⟩] scope pos) 0 (.ref it) (.ref L0) (cenvOf X scope sC)) (compPost (model X.prog X.w) X.A X.xe none (EP X pins σ Q) (.ref L0) sC.heap.objs.size) sD
  have stD : tn 0 sD.heap := T.keep _ _ _ stB fun b _ o e => by
    rw [← eD]
    refine pushCells_keeps _ _ _ _ (Heap.get?_push_of_some _ ?_)
    rw [hpC]
    exact Heap.get?_push_of_some _ e
  have still : ∀ {σ' : L2.St} {H' : Hp} {s' : Shared}, Inv Y [] σ' H' s' → (∀ b ∈ fp, H' b = none) → ∀ b ∈ fp, FpOk Y [] H' b := fun I' hn b hb =>
    ⟨hn b hb, (I'.ok.exf b hb).1, I'.ok.exfs b hb, .inl hb, (I'.ok.exf b hb).2, fun p hp => nomatch (show p ∈ ([] : List (Addr × Obj)) from hp)⟩
  have ring : codeAny (model X.prog X.w) X.A (.compLoop (.ListComp elt [⟨tg, iter, [], 0⟩] scope pos) 0 (.ref it) (.ref L0) (cenvOf X scope sC)) (compPost (model X.prog X.w) X.A X.xe none (EP X pins σ Q) (.ref L0) sC.heap.objs.size) sD := by
    refine compLoop_any (fun n s' => ∃ i H', Inv Y [] (wipe σ (own.map (·.2))) H' s' ∧ tn i s'.heap ∧ (∀ b ∈ fp, H' b = none) ∧ W i n H') ?_ m0 ⟨0, HC, start, stD, fun b hb => (fC b hb).1.1, w0⟩
    rintro n sE ⟨i, HE, JE, stE, nE, wE⟩
    rcases lap i n HE wE with ⟨stop, qq⟩ | ⟨go, Nx, hNx, step⟩
    · refine thnF (T.done Y rfl rfl rfl hcalm i [] sE _ HE (fun _ _ => False) JE (still JE nE) stE stop) fun r sF ⟨hr, JF⟩ => ?_
      subst hr
      have JG : Inv X pins σ HE sF := JC.call' (ch := fp) JF.os JF.base JF.hok JF.bare fun b hb => ⟨(fC b hb).1.2.2.2.1, (fC b hb).1.2.1, (fC b hb).1.2.2.2.2.1, (fC b hb).1.2.2.2.2.2⟩
      have nC : HE sC.heap.objs.size = none := JF.free
      obtain ⟨m, hn, _⟩ := JF.loc
      refine ⟨m, hn, fun h'' sb => ?_⟩
      obtain ⟨f0, f1, f2, f3, f4, f5⟩ := JC.fpOk (Nat.le_refl _) nC
      exact ⟨.ref L0, HE, JG.turned (t' := sF.toks) (fun b o hb e => (sb.2 b hb).trans e) f0 f1 f3 f4 f5, rfl, qq⟩
    · refine thnF (T.item Y rfl rfl rfl hcalm i [] sE _ HE (fun _ _ => False) JE (still JE nE) stE go) fun r sF ⟨u, hr, hF⟩ => ?_
      subst hr
      refine thnF hF fun _ sG ⟨x, HG, JG, rG, yG, stG, nG⟩ => ?_
      refine thnF (pgg.run _ sG _ HG x u _ (JG.pinned (still JG nG) (T.obj _ _ stG)) rG (step x HG yG)) fun _ sH ⟨σ8, HH, JH, hw8, q8⟩ => ?_
      refine wpAny_tests_nil ?_
      simp only [tYes, if_true] at q8 ⊢
      refine thnF (pee.run _ sH σ8 HH _ JH q8) fun z sJ ⟨yv, HJ, JJ, rJ, acc, hDJ, hzJ, nx⟩ => ?_
      refine app_ok (X := Y) JJ hDJ hzJ rJ fun sK JK => ?_
      obtain ⟨m', hm, w'⟩ := hNx _ nx
      have pin' : ∀ b ∈ fp, ∀ o, sG.heap.get? b = some o → sK.heap.get? b = some o ∧ upd HJ L0 (.lst (acc ++ [yv])) b = none := fun b hb o e =>
        have z := JK.pin (b, o) (List.mem_append_right _ (List.mem_append_right _ (mem_pinsAt hb e)))
        ⟨z.1, z.2.1⟩
      have hl : (wipe σ (own.map (·.2))).length = σ8.length := by rw [← hw8, wipe_length]
      refine ⟨m', hm, i + 1, _, (JK.unpinned (pins := [])).weak hl (fun j v e => (wipe_some (hw8 ▸ e)).1), T.keep _ _ _ stG fun b hb o e => (pin' b hb o e).1, fun b hb => ?_, w'⟩
      obtain ⟨o, e, _⟩ := T.obj _ _ stG b hb
      exact (pin' b hb o e).2
  exact codeAny_compStart_list ring (T.self X.A 0 _ _ _ stD ring)
end
end PD
set_option maxHeartbeats 2000000
/-! PL 2: lambdas that wait in a list. -/
namespace PD
open PySem PySem.Spec PyProof.Rows L2 PySem.W
def cellInts (cells : List (Str × Addr)) (t : LamTxt) : List PyData := (cloFrom cells t.scope.names []).map fun y => .int y.2
/-- lambda j, as it is made over these cells -/
def fncD (cells : List (Str × Addr)) (j : Int) (t : LamTxt) : PyData := .dict [(.list [], .list (.int j :: cellInts cells t))]
section
variable {X : Cx} {Γ : List Kd} {A : Addr → Prop} {B : Hp} {E : XK} {t : LamTxt} {pos : Pos} {k : Nat}
theorem j_fnc {j : Int} (M : Mk X.base X.mg t.qual X.env.code) (hq : t.qual = X.env.qual ++ "<lambda>") (hdef : defaultsOf t.params X.env = ([], [])) (hi : lams[j.toNat]? = some t) (hcn : freeOf t.scope.names = t.caps) (hnd : t.caps.Nodup)
    (hfree : t.scope.names.all (fun y => !decide (y.2 = .free) || decide (X.env.scope.names.lookup y.1 = some .cell)) = true) : PE X (.Lambda t.params t.body t.scope pos) (tE X.K Γ (fun _ => False) B E .p (mC (fncD X.env.cells j t))) := by
  refine ⟨fun pins s σ H Q I ⟨O, env, m, q⟩ => ?_⟩
  have hf : ∀ y ∈ t.scope.names, y.2 = .free → X.env.scope.names.lookup y.1 = some .cell := fun y hy e => by
    have z := List.all_eq_true.mp hfree y hy
    rw [Bool.or_eq_true, Bool.not_eq_true', decide_eq_false_iff_not, decide_eq_true_eq] at z
    exact z.resolve_left (fun n => n e)
  refine made I m.cor.tabs M hq hdef (fun y hy e => I.ok.has _ (.inl (hf y hy e))) fun f c' pm ctv H1 s1 hsz I1 sm L => ?_
  have hcc := clo_cells I1 hf
  have ecl : (cloX X t).map (·.1) = t.caps := by rw [clo_names, List.map_nil, List.append_nil, hcn]
  have ne : ∀ {b : Addr}, b < s.heap.objs.size → b ≠ f := fun {b} h => Nat.ne_of_lt (Nat.lt_of_lt_of_le h hsz)
  have I2 : Inv X pins σ (upd H1 f (CelO f (PySem.W.kla_obj "<lambda>" t.qual t.params t.body t.scope (cloX X t) pm c' ctv))) s1 := by
    refine known I1 (Heap.get?_none_of_le (Nat.le_trans I.sz hsz)) L.free (ne I.lt).symm (fun y c e => ?_) (fun p hp => ne (Heap.lt_size (I.pin p hp).1)) ?_
    · obtain ⟨v, z⟩ := I.cell y c e
      exact ne z.lt
    · exact (show ObjOk X.prog X.w _ s1.heap f (CelO f _) from ⟨L.at_, ⟨_, L.at_⟩, fun h1 h2 z st => st _ z⟩)
  have nc : c' ≠ f := ne_of_none L.code L.free
  have no : ∀ a, H a = none → ¬ sset .p (fun _ => False) O a := fun a n z => z.elim id (m.cor.on n)
  refine ⟨.ref f, _, I2, rfl, q _ _ (sm.trans (laid_same L.free)) (show Dv X.K _ _ _ _ from Dv.fnc rfl ⟨t, c', pm, ctv, hi, ⟨ecl, nodup_snd I1.ok.inj (fun y hy => (hcc y hy).1) (by rw [ecl]; exact hnd)⟩, ⟨no f (I.hok.fresh hsz), upd_same⟩, fun z => ?_, by rw [upd_ne nc]; exact L.code⟩)⟩
  rcases z with z | ⟨i, z⟩
  · exact z
  · obtain ⟨ws, e⟩ := m.lists i c' z
    have w := sm c' _ e
    have w2 : H1 c' = some (.lst ws) := w
    rw [L.code] at w2
    unfold LamX.CodeO at w2
    cases w2

/-! ### such a lambda is handed to a def, within a block -/
def capIdx (N : List Str) (t : LamTxt) : List Nat := t.caps.map fun x => N.findIdx fun y => decide (y = x)
def capOk (N : List Str) (sc : Scope) (Γ : List Kd) (vs : List Nat) (t : LamTxt) : Bool :=
  decide ((capIdx N t).map (fun i => N[i]?) = t.caps.map some) && (capIdx N t).all (fun i => decide (Γ[i]? = some .d) && !vs.contains i) && decide (freeOf t.scope.names = t.caps) && decide t.caps.Nodup && t.scope.names.all (fun y => !decide (y.2 = .free) || decide (sc.names.lookup y.1 = some .cell))
structure CapOk (N : List Str) (sc : Scope) (Γ : List Kd) (vs : List Nat) (t : LamTxt) : Prop where
  names : (capIdx N t).map (fun i => N[i]?) = t.caps.map some
  kinds : ∀ i ∈ capIdx N t, Γ[i]? = some .d ∧ i ∉ vs
  caps : freeOf t.scope.names = t.caps
  nd : t.caps.Nodup
  free : ∀ y ∈ t.scope.names, y.2 = .free → sc.names.lookup y.1 = some .cell
theorem capOk_by {N : List Str} {sc : Scope} {Γ : List Kd} {vs : List Nat} {t : LamTxt} (h : capOk N sc Γ vs t = true) : CapOk N sc Γ vs t := by
  unfold capOk at h
  simp only [Bool.and_eq_true, decide_eq_true_eq, List.all_eq_true, Bool.not_eq_true', Bool.or_eq_true, decide_eq_false_iff_not] at h
  obtain ⟨⟨⟨⟨h1, h2⟩, h3⟩, h4⟩, h5⟩ := h
  refine ⟨h1, fun i hi => ⟨(h2 i hi).1, fun z => ?_⟩, h3, h4, fun y hy e => (h5 y hy).resolve_left fun n => n e⟩
  have w := (h2 i hi).2
  rw [List.contains_eq_mem, decide_eq_false_iff_not] at w
  exact w z
def fncOf : PyData → Option (Int × List PyData)
  | .dict [(.list [], .list (.int j :: as))] => some (j, as)
  | _ => none
theorem fncOf_some {x : PyData} {p : Int × List PyData} (h : fncOf x = some p) : x = .dict [(.list [], .list (.int p.1 :: p.2))] := by
  unfold fncOf at h
  split at h
  · cases h; rfl
  · cases h
open Classical in
/-- f(look, ..): look is a lambda over these cells -/
noncomputable def mLook (cells : List (Str × Addr)) (N : List Str) (sc : Scope) (Γ : List Kd) (vs : List Nat) (f : List PyData → Res PyData) (il : Nat) (m2 : ME) : ME := fun env => (m2 env).bind fun x2 => (Res.opt env[il]?).bind fun c => (Res.opt (fncOf c)).bind fun p => match lams[p.1.toNat]? with
  | some t => if p.2 = cellInts cells t ∧ capOk N sc Γ vs t = true then (Res.opt (getAll (capIdx N t) env)).bind fun ds => pureR (f [.dict [(.dict [], .tuple (.int p.1 :: ds))], x2]) else .bad
  | none => .bad
theorem wipe_at {σ : L2.St} {i : Nat} : ∀ {vs : List Nat}, i ∉ vs → (wipe σ vs)[i]? = σ[i]?
  | [], _ => rfl
  | v :: vs, h => by
    unfold wipe
    rw [List.getElem?_set_ne (fun z => h (by rw [z]; exact List.mem_cons_self))]
    exact wipe_at fun z => h (List.mem_cons_of_mem _ z)
section
variable {pins pins2 : List (Addr × Obj)} {σ σ2 : L2.St} {G H2 : Hp} {t0 s2 : Shared} {fp : List Addr} {scope : Scope} {C : Addr} {cl0 : List (Str × Addr)}
theorem blk_cell (hfn : ∀ y, X.fn y = true) (b : BlkAt X pins σ t0 G fp) (I2 : Inv (X.blk t0 G scope (compEnvC scope cl0 C X.env) fp) pins2 σ2 H2 s2) {y : Str} {c : Addr} (e : X.env.cells.lookup y = some c) :
    H2 c = none ∧ c ∉ frs X.stack ∧ X.base.get? c = none ∧ ∀ o, t0.heap.get? c = some o → s2.heap.get? c = some o := by
  have I := b.inv
  have nfr : c ∉ frs X.stack := fun hb => by
    rcases List.mem_cons.mp (I.stkSub _ hb) with q | q
    · exact I.cne _ _ e q
    · obtain ⟨_, o, ho, _⟩ := I.ok.funs.mem q
      exact absurd (Nat.lt_of_lt_of_le (Heap.lt_size ho) (I.ok.cab _ _ (hfn _) e)) (Nat.lt_irrefl _)
  have nfp : c ∉ fp := fun z => b.off c z y c e rfl
  obtain ⟨v, o, ho, hd⟩ := I.cell y c e
  have u : Un (frs X.stack) fp G H2 t0.heap s2.heap := I2.base
  refine ⟨u.free c o ho (I.freeC y c e) nfp, nfr, ?_, fun o' ho' => u.keep c o' ho' (I.freeC y c e) nfr nfp⟩
  cases q : X.base.get? c with
  | none => rfl
  | some o' => exact absurd (Nat.lt_of_lt_of_le (Heap.lt_size q) (Nat.le_trans I.ok.bsz (I.ok.cab _ _ (hfn _) e))) (Nat.lt_irrefl _)
theorem caps_blk {O : Ow} {env : En} {S : Addr → Prop} {L : List (Str × Addr)} {Γ1 : List Kd} {vs : List Nat} {A' : Addr → Prop} (hfn : ∀ y, X.fn y = true) (b : BlkAt X pins σ t0 G fp) (I2 : Inv (X.blk t0 G scope (compEnvC scope cl0 C X.env) fp) pins2 σ2 H2 s2)
    (m : Sim X.K Γ1 A' B O H2 env σ2) (hw : wipe σ2 vs = wipe σ vs) (hS : ∀ a, S a → sset .p A' O a) :
    ∀ (cl : List (Str × Addr)) (idx : List Nat) (ds : List PyData), (∀ y ∈ cl, y ∈ L) → (∀ y ∈ cl, X.env.cells.lookup y.1 = some y.2 ∧ X.env.scope.names.lookup y.1 = some .cell) → idx.map (fun i => X.N[i]?) = cl.map (fun y => some y.1) → (∀ i ∈ idx, Γ1[i]? = some .d ∧ i ∉ vs) → getAll idx env = some ds →
      ∃ ws, Caps S (lend H2 s2.heap L) cl ws ∧ DvAll X.K H2 S ws ds
  | [], [], ds, _, _, _, _, e => by
    cases e
    exact ⟨[], trivial, .nil⟩
  | y :: cl, [], _, _, _, e, _, _ => by simp at e
  | [], _ :: _, _, _, _, e, _, _ => by simp at e
  | y :: cl, i :: idx, ds, hL, hc, hN, hΓ, e => by
    rw [List.map_cons, List.map_cons] at hN
    injection hN with hN1 hN2
    unfold getAll at e
    cases e1 : env[i]? with
    | none => rw [e1] at e; cases e
    | some x =>
      cases e2 : getAll idx env with
      | none => rw [e1, e2] at e; cases e
      | some xs =>
        rw [e1, e2] at e
        cases e
        obtain ⟨ws, c1, d1⟩ := caps_blk hfn b I2 m hw hS cl idx xs (fun y hy => hL y (List.mem_cons_of_mem _ hy)) (fun y hy => hc y (List.mem_cons_of_mem _ hy)) hN2 (fun i hi => hΓ i (List.mem_cons_of_mem _ hi)) e2
        obtain ⟨k1, k2⟩ := hΓ i List.mem_cons_self
        obtain ⟨v, x', h1, h2, h3⟩ := m.slot i .d k1 (by simp)
        rw [e1] at h2
        cases h2
        have hσ : σ[i]? = some (some v) := by
          have z := congrArg (fun l => l[i]?) hw
          simp only [wipe_at k2] at z
          rw [← z]
          exact h1
        obtain ⟨mm, _, loc⟩ := b.inv.loc
        obtain ⟨hcy, hky⟩ := hc y List.mem_cons_self
        obtain ⟨u, ru, lk⟩ := loc i y.1 v hN1 hσ (.inr (.inl hky))
        have hcell : t0.heap.IsCell y.2 (some u) := by
          rcases lk with ⟨z, _⟩ | ⟨_, c, hc', z⟩
          · have z : X.env.scope.names.lookup y.1 = some .local := z
            rw [hky] at z
            cases z
          · rw [hcy] at hc'
            cases hc'
            exact z
        obtain ⟨o, ho, hd⟩ := hcell
        obtain ⟨n, _, _, kp⟩ := blk_cell hfn b I2 hcy
        refine ⟨v :: ws, ⟨⟨fun z => ?_, o, u, lend_in (List.mem_map.mpr ⟨y, hL y List.mem_cons_self, rfl⟩) (kp o ho), hd, ru⟩, c1⟩, .cons (h3.less hS) d1⟩
        rcases hS _ z with z | z
        · exact m.cor.an n z
        · exact m.cor.on n z
end
end
end PD
set_option maxHeartbeats 2000000
/-! PL 3: a def is called with a lambda that waited, within a block. -/
namespace PD
open PySem PySem.Spec PyProof.Rows L2 PySem.W
structure FnG (P : Program) (w : World) (K : PySem.W.Frag) (mg : Str → Option Value) (base : Heap) (k n : Nat) (rk : Fl) (x : Str) (f : List PyData → Res PyData) : Prop where
  ex : ∃ fa fd ps, FnOkG P w K mg base (L2.CX P w) k fa fd ps (spP K n rk f) ∧ mg x = some (.ref fa) ∧ PySem.W.keepIn K (.ref fa) = true ∧ Binds K fd ps []
theorem pairs_eq : ∀ {a b : List (Str × Addr)}, a.map (·.1) = b.map (·.1) → a.map (fun y => PyData.int y.2) = b.map (fun y => PyData.int y.2) → a = b
  | [], [], _, _ => rfl
  | [], _ :: _, h, _ => by simp at h
  | _ :: _, [], h, _ => by simp at h
  | (x, c) :: a, (y, d) :: b, h1, h2 => by
    simp only [List.map_cons, List.cons.injEq] at h1 h2
    obtain ⟨e1, t1⟩ := h1
    obtain ⟨e2, t2⟩ := h2
    have e3 : c = d := by
      have z := PyData.int.inj e2
      exact Int.ofNat.inj z
    rw [pairs_eq t1 t2, e1, e3]
section
variable {X : Cx} {Γ1 : List Kd} {B : Hp} {E : XK} {k kf il : Nat} {pins : List (Addr × Obj)} {σ : L2.St} {G : Hp} {t0 : Shared} {fp : List Addr} {scope : Scope} {C : Addr} {cl0 : List (Str × Addr)} {x y0 : Str} {p p1 pos : Pos} {e2 : Expr} {m2 : ME} {vs : List Nat} {f : List PyData → Res PyData}
theorem j_look (hfn : ∀ y, X.fn y = true) (b : BlkAt X pins σ t0 G fp) (F : FnG X.prog X.w X.K X.mg X.base kf 2 .p x f) (z : Cz X E k) (hgd : X.A.guards = some []) (hk : Nat.ble kf k = true) (hΓ : Γ1[il]? = some .d)
    (ho : PE (X.blk t0 G scope (compEnvC scope cl0 C X.env) fp) (.Name y0 p1) (tVar il)) (h2 : ∀ A', PE (X.blk t0 G scope (compEnvC scope cl0 C X.env) fp) e2 (tE X.K Γ1 A' B E0 .p m2))
    (hg : Gl (X.blk t0 G scope (compEnvC scope cl0 C X.env) fp) x := by rfl) (hdb : (x == ("__debug__" : Str)) = false := by decide)
    (hs1 : starEach [.Name y0 p1, e2] (compEnvC scope cl0 C X.env) = (false, eval (.Name y0 p1) (compEnvC scope cl0 C X.env)) :: starEach [e2] (compEnvC scope cl0 C X.env) := by rfl) (hs2 : starEach [e2] (compEnvC scope cl0 C X.env) = (false, eval e2 (compEnvC scope cl0 C X.env)) :: starEach [] (compEnvC scope cl0 C X.env) := by rfl)
    (hpl : (backTo pos (starEach [e2] (compEnvC scope cl0 C X.env))).any (·.1) = false := by rfl) :
    PE (X.blk t0 G scope (compEnvC scope cl0 C X.env) fp) (.Call (.Name x p) [.Name y0 p1, e2] [] pos)
      (fun σ2 H Q => wipe σ2 vs = wipe σ vs ∧ ∃ A', tE X.K Γ1 A' B E0 .p (mLook X.env.cells X.N X.env.scope Γ1 vs f il m2) σ2 H Q) := by
  refine ⟨fun pins2 s σ2 H Q I ⟨hw, A', O, env, si, q⟩ => ?_⟩
  obtain ⟨fa, fd, ps, F, hm, hkp, hb⟩ := F.ex
  have pa := l_cons (E := E0) (A := A') (B := B) (j_var (by decide) hΓ ho) (l_cons (h2 A') l_nil hs2) hs1
  refine wpAny_Call_Name_kw (ld_glob I hg hm ?_ hdb)
  refine PySem.W.callWith_K (h₀ := X.base) I.ok.mod.kin hkp (thn (pa.run pos pins2 s σ2 H (fun us H1 => Same H H1 ∧ ∃ x1 x2, env[il]? = some x1 ∧ m2 env = .ok x2 ∧ VRels X.K A' B O H1 [.p, .p] us [x1, x2]) I ⟨O, env, si, ?_⟩) fun us s2 ⟨vv, H2, I2, r2, sm2, x1, x2, e1, e3, rs⟩ => ⟨I2.kIn, ?_⟩) hs1 hpl
  · unfold mLook at q
    unfold mCons mVar
    cases e3 : m2 env with
    | bad => rw [e3] at q; exact q.elim
    | exc c y =>
      rw [e3] at q
      cases e1 : env[il]? with
      | none =>
        obtain ⟨v, y2, _, g2, _⟩ := si.slot il .d hΓ (by simp)
        rw [e1] at g2
        cases g2
      | some x1 =>
        simp only [Res.bind, Res.opt]
        exact q
    | ok x2 =>
      cases e1 : env[il]? with
      | none =>
        obtain ⟨v, y2, _, g2, _⟩ := si.slot il .d hΓ (by simp)
        rw [e1] at g2
        cases g2
      | some x1 =>
        simp only [Res.bind, Res.opt, mNil]
        exact fun us H1 s1 r1 => ⟨s1, x1, x2, rfl, rfl, r1⟩
  · unfold mLook at q
    simp only [e3, e1, Res.bind, Res.opt] at q
    cases rs with
    | cons rv1 rs =>
    rename_i v1 vr
    cases rs with
    | cons rv2 rs =>
    rename_i v2 vr2
    cases rs
    cases ef : fncOf x1 with
    | none => simp only [ef] at q
    | some pr =>
      obtain ⟨j, as⟩ := pr
      simp only [ef] at q
      have heq := fncOf_some ef
      subst heq
      cases el : lams[j.toNat]? with
      | none => simp only [el] at q
      | some t =>
        simp only [el] at q
        by_cases hcond : as = cellInts X.env.cells t ∧ capOk X.N X.env.scope Γ1 vs t = true
        · rw [if_pos hcond] at q
          obtain ⟨has, hok⟩ := hcond
          have ck := capOk_by hok
          cases (show Dv X.K H2 (sset .p A' O) v1 _ from rv1) with
          | @fnc f0 i cl cd hcd hF =>
            injection hcd with hcd
            injection hcd with hcd1 hcd2
            injection hcd1 with hcd1
            subst hcd1
            obtain ⟨t', c', pm, ctv, hi', ⟨hnames, hnd⟩, ⟨hSf, hHf⟩, hSc, hHc⟩ := hF
            rw [el] at hi'
            cases hi'
            have ecl : (cloX X t).map (·.1) = t.caps := by rw [clo_names, List.map_nil, List.append_nil, ck.caps]
            have hcl : cl = cloX X t := pairs_eq (by rw [hnames, ecl]) (by rw [← hcd2]; exact has)
            subst hcl
            have hcc := clo_cells b.inv ck.free
            cases e4 : getAll (capIdx X.N t) env with
            | none => simp only [e4, Res.opt] at q
            | some ds =>
              simp only [e4, Res.opt] at q
              have si2 := si.up sm2
              have c2 := si2.cor
              have l : Lent H2 s2.heap (cloX X t) := by
                refine ⟨fun c hc => ?_, fun c hc => ?_⟩
                · obtain ⟨y, hy, rfl⟩ := List.mem_map.mp hc
                  exact (blk_cell hfn b I2 (hcc y hy).1).1
                · obtain ⟨y, hy, rfl⟩ := List.mem_map.mp hc
                  obtain ⟨v, o, ho, hd⟩ := b.inv.cell _ _ (hcc y hy).1
                  exact ⟨o, (blk_cell hfn b I2 (hcc y hy).1).2.2.2 o ho, fun ws w => by rw [hd] at w; cases w⟩
              have hN2 : (capIdx X.N t).map (fun i => X.N[i]?) = (cloX X t).map (fun y => some y.1) := by
                rw [ck.names, ← ecl, List.map_map]
                rfl
              obtain ⟨ws, hcaps, hcd3⟩ := caps_blk (S := sset .p A' O) (L := cloX X t) hfn b I2 si2 hw (fun a w => w) (cloX X t) _ ds (fun y hy => hy) hcc hN2 ck.kinds e4
              have ss := lend_same (h := s2.heap) l
              have hclo : Clo (sset .p A' O) (lend H2 s2.heap (cloX X t)) f0 j.toNat ws := ⟨t, cloX X t, c', pm, ctv, el, ⟨ecl, hnd⟩, ⟨hSf, lend_le l _ _ hHf⟩, ⟨hSc, lend_le l _ _ hHc⟩, hcaps⟩
              have dall : DvAll X.K (lend H2 s2.heap (cloX X t)) (sset .p A' O) [.ref f0, v2] [.dict [(.dict [], .tuple (.int j :: ds))], x2] := .cons (.clo hclo (hcd3.same ss)) (.cons (Dv.same (show Dv X.K H2 (sset .p A' O) v2 x2 from rv2) ss) .nil)
              have fin : ∀ {v : V} {y : PyData} {H3 : Hp}, Same (lend H2 s2.heap (cloX X t)) H3 → pl y = true → Dv X.K H3 (sset .p A' O) v y → Dv X.K (offC H3 (cloX X t)) (sset .p A' O) v y := fun {v y H3} sm hp d => by
                have CI := back_cells0 l sm
                exact Dv.move2 (fun a xs n r => ⟨n, rd_off CI (.inl rfl) r⟩) (fun a xs n r => ⟨n, rd_off CI (.inr rfl) r⟩) y hp d
              have off : ∀ c ∈ (cloX X t).map (·.2), c ∉ frs X.stack ∧ X.base.get? c = none := fun c hc => by
                obtain ⟨y, hy, rfl⟩ := List.mem_map.mp hc
                have w := blk_cell hfn b I2 (hcc y hy).1
                exact ⟨w.2.1, w.2.2.1⟩
              have nfr : ∀ c ∈ frs X.stack, c ∉ (cloX X t).map (·.2) := fun c hc w => (off c w).1 hc
              have ev : Env0 X.prog X.w X.K X.mg X.base X.A X.stack s2 (lend H2 s2.heap (cloX X t)) := by
                refine ⟨I2.ok.frames, I2.ok.mod, fun a o e => ⟨(I2.bs a o e).1, ?_⟩, Nat.le_trans I2.ok.bsz I2.sz, I2.stack, fun a ha => ?_, lend_hok l I2.hok, I2.bare⟩
                · rw [lend_out fun w => ?_]
                  · exact (I2.bs a o e).2
                  · have e' : X.base.get? a = some o := e
                    rw [(off a w).2] at e'
                    cases e'
                · rw [lend_out (nfr a ha)]
                  exact I2.stkFree a ha
              have hsp : spP X.K 2 .p f [.ref f0, v2] (lend H2 s2.heap (cloX X t)) (fun v H3 => Same (lend H2 s2.heap (cloX X t)) H3 ∧ ∃ y, f [.dict [(.dict [], .tuple (.int j :: ds))], x2] = .ok y ∧ Dv X.K H3 (sset .p A' O) v y) (lendE H2 s2.heap (cloX X t) E0) := by
                refine ⟨rfl, tabs_same ss c2.tabs, sset .p A' O, _, fun a w => same_some ss (w.elim (c2.an' a) fun ⟨i, e⟩ => c2.oh i a e), dall, ?_⟩
                cases e5 : f [.dict [(.dict [], .tuple (.int j :: ds))], x2] with
                | bad => rw [e5] at q; exact q
                | ok y => exact fun v H3 sm r => ⟨sm, y, rfl, r⟩
                | exc c y =>
                  rw [e5] at q
                  unfold pureR at q
                  cases hp : pl y with
                  | false => simp only [hp] at q
                  | true =>
                    simp only [hp] at q
                    intro H3 d v sm hd e6 dv
                    have nd : d ∉ (cloX X t).map (·.2) := fun w => by
                      obtain ⟨o, e7, _⟩ := l.at_ d w
                      rw [lend_in w e7] at hd
                      cases hd
                    have hd2 : H2 d = none := by
                      rw [lend_out nd] at hd
                      exact hd
                    exact ⟨sm, q _ d v (c2.same.trans (back_same l sm)) (c2.bn hd2) (by rw [offC_out nd]; exact e6) ((fin sm hp dv).less fun a w => .inl w)⟩
              have hl : us.length = ps.length := r2.length.symm.trans (F.len _ _ _ _ hsp)
              have bt := hb s2 us I2.kIn (by rw [List.append_nil]; exact hl)
              rw [List.append_nil] at bt
              refine wpAny_call (codeAny_mono (F.run X.A X.stack s2 _ ⟨us, []⟩ us [.ref f0, v2] _ _ hgd (z.room.mono (Nat.le_of_ble_eq_true hk)) ev bt r2 hsp) fun r s' hq => ?_)
              cases r with
              | error er => exact (z.blk (s := t0) (H := G) (scope := scope) (cenv := compEnvC scope cl0 C X.env) (fp := fp)).pass pins2 σ2 H2 s2 er s' I2 (back_cx l hq)
              | ok fl =>
                cases fl with
                | ret u =>
                  obtain ⟨v, H3, os, bare, un, hok3, rv, sm, y, e5, dv⟩ := (show CE X.stack X.prog X.w (lend H2 s2.heap (cloX X t)) s2 _ u s' from hq)
                  rw [e5] at q
                  unfold pureR at q
                  cases hp : pl y with
                  | false => simp only [hp] at q
                  | true =>
                    simp only [hp] at q
                    exact I2.after ⟨v, offC H3 (cloX X t), os, bare, back_un l sm hok3 nfr un, hok_off (back_cells l sm hok3) hok3, rv, q v _ (sm2.trans (back_same l sm)) (fin sm hp dv)⟩
                | next => exact False.elim hq
                | brk => exact False.elim hq
                | cont => exact False.elim hq
        · rw [if_neg hcond] at q
          exact q.elim
end
end PD
set_option maxHeartbeats 2000000
/-! PL 4: such a comprehension as a value; the end of a def that only looks. -/
namespace PD
open PySem PySem.Spec PyProof.Rows L2 PySem.W
section
variable {X : Cx} {Γ Γ1 Γ' : List Kd} {A : Addr → Prop} {B : Hp} {E : XK} {k : Nat} {fI : Fl} {mit : ML} {g : MG} {e : ME} {vs : List Nat} {K : PySem.W.Frag}
theorem told_conv {σ : L2.St} {H : Hp} {Q : VK} (h : tLc (tI false K Γ A B E fI mit) (xG fun A' => tG K (wipeK Γ vs) Γ1 A' B vs fI g) (xT fun A' => tT K Γ1 A' B E0 mTrue) (xE fun A' => tE K Γ1 A' B E0 .p e) vs σ H Q) :
    tLc (tI false K Γ A B E fI mit) (xG fun A' => tG K (wipeK Γ vs) Γ1 A' B vs fI g) tYes (fun σ2 H Q => wipe σ2 vs = wipe σ vs ∧ ∃ A', tE K Γ1 A' B E0 .p e σ2 H Q) vs σ H Q := by
  obtain ⟨O, env, m, h⟩ := h
  refine ⟨O, env, m, ?_⟩
  cases e1 : mit env with
  | bad => rw [e1] at h; exact h
  | exc c x => rw [e1] at h; exact h
  | ok xs =>
    rw [e1] at h
    intro J H1 s1 di D hD
    obtain ⟨W, w0, lap⟩ := h J H1 s1 di D hD
    refine ⟨W, w0, fun i n H2 w => ?_⟩
    rcases lap i n H2 w with z | ⟨go, Nx, hN, step⟩
    · exact .inl z
    · refine .inr ⟨go, Nx, hN, fun x H3 y => ?_⟩
      obtain ⟨A', O2, env2, x2, m2, r2, q⟩ := step x H3 y
      refine ⟨A', O2, env2, x2, m2, r2, ?_⟩
      cases e2 : g x2 env2 with
      | none => rw [e2] at q; exact q
      | some env3 =>
        rw [e2] at q
        intro σ3 m3 w3
        obtain ⟨w4, A2, O4, env4, m4, q4⟩ := q σ3 m3 w3
        have q5 := q4 H3 (Same.refl H3)
        exact ⟨w4, w4, q5⟩
theorem j_lcT {elt tg iter : Expr} {scope : Scope} {own : List (Str × Nat)} {pos : Pos} (z : Cz X E k) (hN : X.N.Nodup) (hi : PI X tg iter (tI false X.K Γ A B E fI mit)) (ok : BlkOk X.N X.env.scope scope own) (hv : noOwn Γ (own.map (·.2)) = true)
    (hg : ∀ (A' : Addr → Prop) (s : Shared) (H : Hp) (C : Addr) (cl : List (Str × Addr)) (fp : List Addr), PG (X.blk s H scope (compEnvC scope cl C X.env) fp) tg (tG X.K (wipeK Γ (own.map (·.2))) Γ1 A' B (own.map (·.2)) fI g))
    (he : ∀ (pins : List (Addr × Obj)) (σ : L2.St) (s : Shared) (H : Hp) (C : Addr) (cl : List (Str × Addr)) (fp : List Addr), BlkAt X pins σ s H fp → PE (X.blk s H scope (compEnvC scope cl C X.env) fp) elt (fun σ2 H Q => wipe σ2 (own.map (·.2)) = wipe σ (own.map (·.2)) ∧ ∃ A', tE X.K Γ1 A' B E0 .p e σ2 H Q))
    (hs : ∀ x, foldedSetIterable iter X.env x = pure x := by intro _; rfl) :
    PE X (.ListComp elt [⟨tg, iter, [], 0⟩] scope pos) (tE X.K Γ A B E .f (mLc mit g mTrue e)) :=
  ⟨fun pins s σ H Q I h => lc_told z.calm hN I hi ok (fun s H C cl fp => x_g fun A' => hg A' s H C cl fp) (fun t G C cl fp b => he pins σ t G C cl fp b) hs (told_conv (lc_imp (fe := .p) hv (.inl rfl) h))⟩

/-! ### the end of a def that changes its list no more -/
/-- what a truth value handed back comes to, the list as it is -/
def mTail (m : MS) : MS := fun env => match m env with
  | .ok (.ret (.bool b)) => (Res.opt env[0]?).bind fun p => .ok (.ret (.tuple [.bool b, p]))
  | _ => .bad
theorem r_tail {body : List Stmt} {D : Addr} {m : MS} (hA : A D) (h : ∀ B', PSs X body (tS X.K (Γ.set 0 .n) Γ' (fun _ => False) B' E .p m)) : PSs X body (tM X.K Γ Γ1 A B E D (mTail m)) := by
  refine ⟨fun pins s σ H Dn I ⟨O, env, p, q⟩ => ?_⟩
  obtain ⟨is, g1, g2⟩ := p.lst
  have si := p.sim
  have c := si.cor
  have w := si.weak (Γ2 := Γ.set 0 .n) (kles_set Γ 0)
  have c0 : Cor (fun _ => False) B (owOf (Γ.set 0 .n) O) H := ⟨w.cor.same, fun a z => z.elim, fun a z => z.elim, w.cor.ob, w.cor.oh, w.cor.inj, w.cor.tabs⟩
  have si0 : Sim X.K (Γ.set 0 .n) (fun _ => False) B (owOf (Γ.set 0 .n) O) H env σ := by
    refine ⟨c0, w.len, w.lenS, fun i k hi hk => ?_, w.owns⟩
    obtain ⟨v, x, h1, h2, h3⟩ := w.slot i k hi hk
    refine ⟨v, x, h1, h2, ?_⟩
    cases k with
    | n => trivial
    | d => exact Dv.less h3 (fun a z => z.elim (fun z => z.elim) .inr)
    | b => exact h3
    | o =>
      obtain ⟨a, vs, xs, e1, e2, e3, e4, e5⟩ := h3
      exact ⟨a, vs, xs, e1, e2, e3, e4, e5.less fun a z => z.elim (fun z => z.elim) .inr⟩
  unfold mTail at q
  -- from where the tail begins on, all else stands
  have hD0 : PD.cut (owOf (Γ.set 0 .n) O) H D = some (.lst (is.map V.int)) := by
    rw [cut_ne fun z => c.ao' D hA (owOf_own z)]
    exact g2
  refine wpAny_mono ((h (PD.cut (owOf (Γ.set 0 .n) O) H)).run pins s σ H { nx := fun _ _ => False, rt := fun v H' => (∃ b, v = .bl b ∧ m env = .ok (.ret (.bool b))) ∧ Same B H' ∧ H' D = some (.lst (is.map V.int)), bk := fun _ _ => False, ct := fun _ _ => False } I ⟨_, env, si0.cut, ?_⟩) (fun f s2 hs => ?_) fun _ _ z => z
  · have sc := same_cut c0 si0.lists
    cases e1 : m env with
    | bad => rw [e1] at q; exact q
    | exc c x => rw [e1] at q; exact q.elim
    | ok o =>
      rw [e1] at q
      cases o with
      | next e' => exact q.elim
      | cont e' => exact q.elim
      | ret x =>
        cases x with
        | bool b =>
          intro v H' sm rv
          cases (show Dv X.K H' (fun _ => False) v (.bool b) from rv)
          exact ⟨⟨b, rfl, rfl⟩, sc.trans sm, sm D _ hD0⟩
        | _ => exact q.elim
  · cases f with
    | next => obtain ⟨_, _, _, z⟩ := hs; exact z.elim
    | brk => obtain ⟨_, _, _, z⟩ := hs; exact z.elim
    | cont => obtain ⟨_, _, _, z⟩ := hs; exact z.elim
    | ret u =>
      obtain ⟨v, σ2, H2, J, ru, ⟨b, rfl, e1⟩, sm, hD⟩ := hs
      refine ⟨.bl b, σ2, H2, J, ru, ?_⟩
      rw [e1] at q
      simp only [g1, Res.opt, Res.bind] at q
      exact q (.bl b) is H2 rfl sm hD (.bl b)
end
end PD
set_option maxHeartbeats 2000000
/-! PL 5: defs that may ask for repr promise; pairs of names in a def that changes its list. -/
namespace PD
open PySem PySem.Spec PyProof.Rows L2 PySem.W
section
variable {P : Program} {w : World} {K : PySem.W.Frag} {mg : Str → Option Value} {base : Heap} {x qual : Str} {params : Arguments} {body : List Stmt} {scope : Scope} {fa : Addr} {fd : FuncData} {N ps : List Str} {k n l : Nat} {m : MS}
def BodyG (P : Program) (w : World) (K : PySem.W.Frag) (mg : Str → Option Value) (base : Heap) (N : List Str) (qual : Str) (scope : Scope) (fa : Addr) (cdv : Value) (body : List Stmt) (k n l : Nat) (m : MS) : Prop :=
  ∀ (A0 : Around) (outer : List Env) (s : Shared) (H : Hp) (E : XK) (A : Addr → Prop), let X := cxOf (L2.CX P w) P w K mg base N qual scope fa cdv A0 outer s H E
    X.A.guards = some [] → Cz X E k → Takes X (fun cls d _ H => E cls d H) → PassesOwn (model X.prog X.w) X.A X.env X.xe → ∃ Γ', PSs X body (tS K (atEntry n l) Γ' A H E .p m)
theorem fnG_ok (F : FunD K x qual params body scope [] [] fa fd) (S : FnScope N ps scope) (hn : ps.length = n) (hN : N.length = n + l) (hm : mg x = some (.ref fa)) (b : Binds K fd ps []) (h : BodyG P w K mg base N qual scope fa fd.code body k n l m) :
    FnG P w K mg base (k + 1) n .p x (runFn m l) := by
  have kp := F.kp
  obtain ⟨oc, od, dV, kV, doc, pm, an, cdv, ct, osl, rfl, lk, hcd, _, _⟩ := F.ex
  refine ⟨fa, _, ps, fn_ofG lk hcd S (fun vs H Q E hs => hs.1.trans hn.symm) (fun A0 outer s H vs Q E hgd hr' hs => ?_), hm, kp, b⟩
  obtain ⟨hl, hT, A, xs, hA, hd, hs⟩ := hs
  obtain ⟨Γ', hb⟩ := h A0 outer s H E A (cx_guards hgd) ⟨hr', rfl, passes_call (takes_of rfl rfl rfl rfl) fun _ _ _ _ z => z⟩ (takes_of rfl rfl rfl rfl) (passes_of rfl)
  refine ⟨_, hb, fun _ => none, _, sim_start hT hA hl hN hd, ?_⟩
  unfold runFn at hs
  cases e : m (xs ++ List.replicate l .none) with
  | bad => simp only [e] at hs
  | exc c x => simp only [e] at hs; exact hs
  | ok o =>
    cases o with
    | next env' => simp only [e] at hs; exact fun O' σ' H' _ z => hs .non H' z.cor.same .non
    | ret x => simp only [e] at hs; exact fun v H' sm r => hs v H' sm r
    | cont env' => simp only [e] at hs
structure FnMG (P : Program) (w : World) (K : PySem.W.Frag) (mg : Str → Option Value) (base : Heap) (k n : Nat) (x : Str) (f : List PyData → Res PyData) : Prop where
  ex : ∃ fa fd ps, FnOkG P w K mg base (L2.CX P w) k fa fd ps (spM K n f) ∧ mg x = some (.ref fa) ∧ PySem.W.keepIn K (.ref fa) = true ∧ Binds K fd ps []
def BodyMG (P : Program) (w : World) (K : PySem.W.Frag) (mg : Str → Option Value) (base : Heap) (N : List Str) (qual : Str) (scope : Scope) (fa : Addr) (cdv : Value) (body : List Stmt) (k n l : Nat) (m : MS) : Prop :=
  ∀ (A0 : Around) (outer : List Env) (s : Shared) (H : Hp) (E : XK) (A : Addr → Prop) (B : Hp) (D : Addr), let X := cxOf (L2.CX P w) P w K mg base N qual scope fa cdv A0 outer s H E
    A D → B D = none → X.A.guards = some [] → Cz X E k → Takes X (fun cls d _ H => E cls d H) → PassesOwn (model X.prog X.w) X.A X.env X.xe → ∃ Γ', PSs X body (tM K (atEntryM n l) Γ' A B E D m)
theorem fnMG_ok (F : FunD K x qual params body scope [] [] fa fd) (S : FnScope N ps scope) (hn : ps.length = n + 1) (hN : N.length = n + 1 + l) (hm : mg x = some (.ref fa)) (b : Binds K fd ps []) (h : BodyMG P w K mg base N qual scope fa fd.code body k n l m) :
    FnMG P w K mg base (k + 1) (n + 1) x (runM m l) := by
  have kp := F.kp
  obtain ⟨oc, od, dV, kV, doc, pm, an, cdv, ct, osl, rfl, lk, hcd, _, _⟩ := F.ex
  refine ⟨fa, _, ps, fn_ofG lk hcd S (fun vs H Q E hs => hs.1.trans hn.symm) (fun A0 outer s H vs Q E hgd hr' hs => ?_), hm, kp, b⟩
  obtain ⟨hl, hT, A, D, is, us, xs, rfl, hAD, hD, hA, hd, hs⟩ := hs
  obtain ⟨Γ', hb⟩ := h A0 outer s H E A (hideD D H) D hAD hideD_at (cx_guards hgd) ⟨hr', rfl, passes_call (takes_of rfl rfl rfl rfl) fun _ _ _ _ z => z⟩ (takes_of rfl rfl rfl rfl) (passes_of rfl)
  refine ⟨_, hb, fun _ => none, _, potS_start hT hA hD (by simpa using hl) hN hd, ?_⟩
  unfold runM at hs
  cases e : m (.list (is.map .int) :: xs ++ List.replicate l .none) with
  | bad => simp only [e] at hs
  | exc c x => simp only [e] at hs; exact hs
  | ok o =>
    cases o with
    | next env' => simp only [e] at hs
    | ret x => simp only [e] at hs; exact hs
    | cont env' => simp only [e] at hs
end
section
variable {X : Cx} {Γ Γ1 Γ2 Γ' : List Kd} {A : Addr → Prop} {B : Hp} {E : XK} {D : Addr} {rest : List Stmt} {st : Stmt} {m : MS} {a b : ME} {f1 f2 : Fl} {pos : Pos}
theorem r_parG {i j : Nat} {x y : Str} {ea eb : Expr} {px py pt : Pos} {kt k2 : Nat} {pt2 : Pos} {ki kj : Kd} (hc : X.calm = true) (hN : X.N.Nodup) (hi : X.N[i]? = some x) (hj : X.N[j]? = some y) (hi0 : i ≠ 0) (hj0 : j ≠ 0)
    (hx : Loc X.env.scope x) (hy : Loc X.env.scope y) (hli : Nat.blt i Γ.length = true) (hlj : Nat.blt j Γ.length = true) (hki : kdS f1 = some ki) (hkj : kdS f2 = some kj) (h2 : f2.pf = true)
    (ha : ∀ B, PE X ea (tE X.K Γ A B E f1 a)) (hb : ∀ A B, PE X eb (tE X.K Γ A B E f2 b))
    (hw : swappedStores [.Tuple [.Name x px, .Name y py] kt pt] (.Tuple [ea, eb] k2 pt2) X.env = pure none := by rfl)
    (hs : swapsWithSole [.Tuple [.Name x px, .Name y py] kt pt] (.Tuple [ea, eb] k2 pt2) pos.line X.env = pure false := by rfl)
    (hs1 : starEach [ea, eb] X.env = (false, eval ea X.env) :: starEach [eb] X.env := by rfl) (hs2 : starEach [eb] X.env = (false, eval eb X.env) :: starEach [] X.env := by rfl)
    (h1 : (assignEach [.Tuple [.Name x px, .Name y py] kt pt] X.env).map (·.2) = [assign (.Tuple [.Name x px, .Name y py] kt pt) X.env] := by rfl)
    (hx1 : X.fn x = true ∨ X.env.scope.names.lookup x = some .local := by first | exact .inl rfl | exact .inr rfl | assumption) (hy1 : X.fn y = true ∨ X.env.scope.names.lookup y = some .local := by first | exact .inl rfl | exact .inr rfl | assumption)
    (hn : (assignEach [.Name x px, .Name y py] X.env).length = 2 := by rfl) (hst : (assignEach [.Name x px, .Name y py] X.env).findIdx? (·.1) = none := by rfl)
    (ht1 : (assignEach [.Name x px, .Name y py] X.env).map (·.2) = assign (.Name x px) X.env :: (assignEach [.Name y py] X.env).map (·.2) := by rfl) (ht2 : (assignEach [.Name y py] X.env).map (·.2) = assign (.Name y py) X.env :: (assignEach [] X.env).map (·.2) := by rfl) :
    PS X (.Assign [.Tuple [.Name x px, .Name y py] kt pt] (.Tuple [ea, eb] k2 pt2) pos) (tM X.K Γ ((Γ.set i ki).set j kj) A B E D (mPar2 i j a b)) := by
  have hP := ps_asg (pos := pos) (tg := .Tuple [.Name x px, .Name y py] kt pt) (e := .Tuple [ea, eb] k2 pt2) (pe_tup (pa_cons (j_new (B := B) ha) (pa_cons (x_e (t := fun A' => tN X.K Γ A' B E f2 b) fun A' => j_new (B := B) (hb A')) pa_nil hs2) hs1))
    (pg_tup hc (pgs_cons (pg_name hN hi hx hx1) (pgs_cons (pg_name hN hj hy hy1) pgs_nil ht2) ht1) hn hst) hs hw h1
  refine ⟨fun pins s σ H Dn I ⟨O, env, p0, q⟩ => hP.run pins s σ H Dn I ⟨O, env, p0.sim, ?_⟩⟩
  have si := p0.sim
  obtain ⟨is, g1, g2⟩ := p0.lst
  unfold mPar2 at q
  cases e1 : a env with
  | bad => rw [e1] at q; exact q
  | exc c x => rw [e1] at q; exact q
  | ok x1 =>
    rw [e1] at q
    refine fun v H1 s1 r1 nw1 => ?_
    simp only [Res.bind] at q
    refine ⟨fun q => A q ∨ newOf f1 v q, O, env, si.moreF s1 r1 nw1, ?_⟩
    cases e2 : b env with
    | bad => rw [e2] at q; exact q
    | exc c x => rw [e2] at q; exact q.more fun a z => .inl z
    | ok x2 =>
      rw [e2] at q
      refine fun u H2 s2 r2 nw2 => ⟨by rw [sizeLine_eq]; exact (by decide : 2 ≤ 16777216), fun p hp => ?_⟩
      have s3 : Same H2 (upd H2 p (.tup [v, u])) := laid_same hp
      refine ⟨p, [v, u], rfl, .inl (.inl upd_same), rfl, v, [u], rfl, u, [], rfl, rfl, ?_⟩
      obtain ⟨O1, st1, si1, ow1⟩ := si.put1 s1 (Nat.le_of_ble_eq_true hli) hki r1 nw1
      have r2' : VRel X.K f2 A B O1 H2 u x2 := r2.shift (pf_or h2) fun q z => by
        rcases z with z | z
        · exact .inl (.inl z)
        · rcases ow1 q z with z | z
          · exact .inr z
          · exact .inl (.inr z)
      obtain ⟨O2, st2, si2, _⟩ := si1.put1 s2 (by rw [List.length_set]; exact Nat.le_of_ble_eq_true hlj) hkj r2' nw2
      refine q O2 _ _ ⟨si2.up s3, ?_, is, ?_, ((s1.trans s2).trans s3) _ _ g2⟩
      · rw [List.getElem?_set_ne hj0, List.getElem?_set_ne hi0]
        exact p0.at0
      · rw [List.getElem?_set_ne hj0, List.getElem?_set_ne hi0]
        exact g1
theorem r_par {i j : Nat} {x y : Str} {ea eb : Expr} {px py pt : Pos} {kt k2 : Nat} {pt2 : Pos} {ki kj : Kd} (hc : X.calm = true) (hN : X.N.Nodup) (hi : X.N[i]? = some x) (hj : X.N[j]? = some y) (hij : i ≠ j) (hi0 : i ≠ 0) (hj0 : j ≠ 0)
    (hx : X.env.scope.names.lookup x = some .local) (hy : X.env.scope.names.lookup y = some .local) (hli : Nat.blt i Γ.length = true) (hlj : Nat.blt j Γ.length = true) (hki : kdS f1 = some ki) (hkj : kdS f2 = some kj) (h2 : f2.pf = true)
    (ha : ∀ B, PE X ea (tE X.K Γ A B E f1 a)) (hb : ∀ A B, PE X eb (tE X.K Γ A B E f2 b))
    (hw : swappedStores [.Tuple [.Name x px, .Name y py] kt pt] (.Tuple [ea, eb] k2 pt2) X.env = pure (some [x, y]) := by rfl)
    (hs : swapsWithSole [.Tuple [.Name x px, .Name y py] kt pt] (.Tuple [ea, eb] k2 pt2) pos.line X.env = pure false := by rfl)
    (hs1 : starEach [ea, eb] X.env = (false, eval ea X.env) :: starEach [eb] X.env := by rfl) (hs2 : starEach [eb] X.env = (false, eval eb X.env) :: starEach [] X.env := by rfl) :
    PS X (.Assign [.Tuple [.Name x px, .Name y py] kt pt] (.Tuple [ea, eb] k2 pt2) pos) (tM X.K Γ ((Γ.set i ki).set j kj) A B E D (mPar2 i j a b)) := by
  have hP := ps_par (pos := pos) (px := px) (py := py) (pt := pt) (kt := kt) (k2 := k2) (pt2 := pt2) hc hN hi hj hij hx hy (pa_cons (j_new (B := B) ha) (pa_cons (x_e (t := fun A' => tN X.K Γ A' B E f2 b) fun A' => j_new (B := B) (hb A')) pa_nil hs2) hs1) hw hs
  refine ⟨fun pins s σ H Dn I ⟨O, env, p0, q⟩ => hP.run pins s σ H Dn I ⟨O, env, p0.sim, ?_⟩⟩
  have si := p0.sim
  obtain ⟨is, g1, g2⟩ := p0.lst
  unfold mPar2 at q
  cases e1 : a env with
  | bad => rw [e1] at q; exact q
  | exc c x => rw [e1] at q; exact q
  | ok x1 =>
    rw [e1] at q
    refine fun v H1 s1 r1 nw1 => ?_
    simp only [Res.bind] at q
    refine ⟨fun q => A q ∨ newOf f1 v q, O, env, si.moreF s1 r1 nw1, ?_⟩
    cases e2 : b env with
    | bad => rw [e2] at q; exact q
    | exc c x => rw [e2] at q; exact q.more fun a z => .inl z
    | ok x2 =>
      rw [e2] at q
      refine fun u H2 s2 r2 nw2 => ⟨v, u, rfl, ?_⟩
      obtain ⟨O1, st1, si1, ow1⟩ := si.put1 s1 (Nat.le_of_ble_eq_true hli) hki r1 nw1
      have r2' : VRel X.K f2 A B O1 H2 u x2 := r2.shift (pf_or h2) fun q z => by
        rcases z with z | z
        · exact .inl (.inl z)
        · rcases ow1 q z with z | z
          · exact .inr z
          · exact .inl (.inr z)
      obtain ⟨O2, st2, si2, _⟩ := si1.put1 s2 (by rw [List.length_set]; exact Nat.le_of_ble_eq_true hlj) hkj r2' nw2
      refine q O2 _ H2 ⟨si2, ?_, is, ?_, (s1.trans s2) _ _ g2⟩
      · rw [List.getElem?_set_ne hj0, List.getElem?_set_ne hi0]
        exact p0.at0
      · rw [List.getElem?_set_ne hj0, List.getElem?_set_ne hi0]
        exact g1
theorem r_weak (h : kles Γ Γ2 = true) (q : PS X st (tM X.K Γ2 Γ' A B E D m)) : PS X st (tM X.K Γ Γ' A B E D m) := by
  refine ⟨fun pins s σ H Dn I ⟨O, env, p, w⟩ => q.run pins s σ H Dn I ⟨owOf Γ2 O, env, ⟨p.sim.weak h, p.at0, p.lst⟩, ?_⟩⟩
  exact w
theorem rb_weak (h : kles Γ Γ2 = true) (q : PSs X rest (tM X.K Γ2 Γ' A B E D m)) : PSs X rest (tM X.K Γ Γ' A B E D m) :=
  ⟨fun pins s σ H Dn I ⟨O, env, p, w⟩ => q.run pins s σ H Dn I ⟨owOf Γ2 O, env, ⟨p.sim.weak h, p.at0, p.lst⟩, w⟩⟩
end
end PD
set_option maxHeartbeats 2000000
/-! PL 6: looks one by one, without the cells. -/
namespace PD
open PySem PySem.Spec PyProof.Rows L2 PySem.W
abbrev Lk := Int × LamTxt × ME
def mLk (cells : List (Str × Addr)) (p : Lk) : ME := mTup (mCons (mC (fncD cells p.1 p.2.1)) (mCons p.2.2 mNil))
def mXs (cells : List (Str × Addr)) (il : Nat) (fin : MS) : List Lk → MS
  | [] => fin
  | p :: r => mSeq (mApp il (mLk cells p)) (mXs cells il fin r)
def mX (cells : List (Str × Addr)) (il : Nat) (fin : MS) : List Lk → MS
  | [] => fin
  | p :: r => mSeq (mSet il (mLst (mCons (mLk cells p) mNil))) (mXs cells il fin r)
noncomputable def mFin (cells : List (Str × Addr)) (N : List Str) (sc : Scope) (Γ : List Kd) (il ll ld : Nat) (f : List PyData → Res PyData) : MS :=
  mRet (mOpL fAll (mCons (mLc (mItems (mVar il)) (gTuple 2 (gMore (gSet ll) (gMore (gSet ld) gNo))) mTrue (mLook cells N sc Γ [ll, ld] f ll (mOp2 fIx (mOp2 fAddL (mVar ld) (mLst (mCons (mC .none) mNil))) (mC (.int 0))))) mNil))
/-- one look comes out right -/
def seeOne (N : List Str) (f : List PyData → Res PyData) (env : En) (p : Lk) : Bool := match p.2.2 env, getAll (capIdx N p.2.1) env with
  | .ok (.list ds), some cs => Nat.ble ds.length 100 && (match f [.dict [(.dict [], .tuple (.int p.1 :: cs))], ds.headD .none] with
    | .ok (.bool true) => true
    | _ => false)
  | _, _ => false
def mSee (N : List Str) (f : List PyData → Res PyData) (items : List Lk) : MS := fun env => match items.all (seeOne N f env) with
  | true => (Res.opt env[0]?).bind fun q => .ok (.ret (.tuple [.bool true, q]))
  | false => .bad
def LksOk (N : List Str) (sc : Scope) (Γ : List Kd) (il ll ld : Nat) : List Lk → Prop
  | [] => True
  | p :: r => (lams[p.1.toNat]? = some p.2.1 ∧ capOk N sc Γ [ll, ld] p.2.1 = true ∧ ∀ (env : En) (y : PyData), p.2.2 (env.set il y) = p.2.2 env) ∧ LksOk N sc Γ il ll ld r
theorem getAll_set {i : Nat} {x : PyData} {env : En} : ∀ {idx : List Nat}, (∀ j ∈ idx, j ≠ i) → getAll idx (env.set i x) = getAll idx env
  | [], _ => rfl
  | j :: idx, h => by
    unfold getAll
    rw [getAll_set fun k hk => h k (List.mem_cons_of_mem _ hk), List.getElem?_set_ne (h j List.mem_cons_self).symm]
/-- what waits in the list -/
def lkD (cells : List (Str × Addr)) (env : En) (p : Lk) : PyData := .tuple [fncD cells p.1 p.2.1, match p.2.2 env with | .ok x => x | _ => .none]
section
variable {cells : List (Str × Addr)} {N : List Str} {sc : Scope} {Γ : List Kd} {il ll ld : Nat} {f : List PyData → Res PyData} {fin : MS} {env : En}
theorem lk_ok {p : Lk} (e0 : ∃ ds, p.2.2 env = .ok (.list ds)) : mLk cells p env = .ok (lkD cells env p) := by
  obtain ⟨ds, e⟩ := e0
  unfold mLk mTup mCons mC mNil lkD
  simp [Res.bind, e, okLen]
theorem xs_run : ∀ (r : List Lk) (done : List PyData) (env' : En), LksOk N sc Γ il ll ld r → il < env.length → env' = env.set il (.list done) → done.length + r.length ≤ 1000 → (∀ p ∈ r, ∃ ds, p.2.2 env = .ok (.list ds)) →
    mXs cells il fin r env' = fin (env.set il (.list (done ++ r.map (lkD cells env))))
  | [], done, env', _, _, he, _, _ => by
    subst he
    simp [mXs]
  | p :: r, done, env', h, hl, he, hz, hd => by
    subst he
    have ih := xs_run r (done ++ [lkD cells env p]) _ h.2 hl rfl (by rw [List.length_append, List.length_cons, List.length_nil]; rw [List.length_cons] at hz; omega) (fun q hq => hd q (List.mem_cons_of_mem _ hq))
    have e1 : mLk cells p (env.set il (.list done)) = .ok (lkD cells env p) := by
      have : mLk cells p (env.set il (.list done)) = mLk cells p env := by
        unfold mLk mTup mCons mC mNil
        rw [h.1.2.2]
      rw [this]
      exact lk_ok (hd p List.mem_cons_self)
    have hr : room1 done = true := by
      unfold room1
      rw [List.length_cons] at hz
      exact Nat.ble_eq_true_of_le (by omega)
    unfold mXs mSeq mApp
    rw [e1, List.getElem?_set_self hl]
    simp only [Res.opt, Res.bind, asL, hr]
    rw [List.set_set, ih, List.append_assoc]
    rfl
theorem x_run {items : List Lk} (hne : items ≠ []) (h : LksOk N sc Γ il ll ld items) (hl : il < env.length) (hz : items.length ≤ 1000) (hd : ∀ p ∈ items, ∃ ds, p.2.2 env = .ok (.list ds)) : mX cells il fin items env = fin (env.set il (.list (items.map (lkD cells env)))) := by
  cases items with
  | nil => exact absurd rfl hne
  | cons p r =>
    show mSeq (mSet il (mLst (mCons (mLk cells p) mNil))) (mXs cells il fin r) env = _
    unfold mSeq mSet mLst mCons mNil
    rw [lk_ok (hd p List.mem_cons_self)]
    simp only [Res.bind, okLen, List.length_cons, List.length_nil]
    exact xs_run r [lkD cells env p] _ h.2 hl rfl (by rw [List.length_cons] at hz; simp; omega) (fun q hq => hd q (List.mem_cons_of_mem _ hq))
theorem fix_head (ds : List PyData) (h : ds.length ≤ 100) : (mOp2 fIx (mOp2 fAddL (fun _ => .ok (.list ds)) (mLst (mCons (mC .none) mNil))) (mC (.int 0))) env = .ok (ds.headD .none) := by
  have e : Nat.ble (ds.length + 1) 16777216 = true := Nat.ble_eq_true_of_le (by omega)
  have e2 : okLen [PyData.none] = true := rfl
  unfold mOp2 mLst mCons mC mNil
  simp only [Res.bind, e2, fAddL, List.length_cons, List.length_nil, Nat.zero_add, e, Res.opt, fIx]
  have e3 : ∀ ys : List PyData, ∀ y, nth (y :: ys) 0 = some y := fun ys y => by
    rw [nth_at]
    unfold atI ixN
    simp
  cases ds with
  | nil => rw [List.nil_append, e3]; rfl
  | cons d ds => rw [List.cons_append, e3]; rfl
theorem look_run {p : Lk} (hp : lams[p.1.toNat]? = some p.2.1 ∧ capOk N sc Γ [ll, ld] p.2.1 = true) (hil : Γ[il]? = some .o) (hne : ll ≠ ld) (h1 : ll < env.length) (h2 : ld < env.length) (y : PyData) {ds cs : List PyData} (hz : ds.length ≤ 100) (hcs : getAll (capIdx N p.2.1) env = some cs)
    (hf : f [.dict [(.dict [], .tuple (.int p.1 :: cs))], ds.headD .none] = .ok (.bool true)) :
    mLook cells N sc Γ [ll, ld] f ll (mOp2 fIx (mOp2 fAddL (mVar ld) (mLst (mCons (mC .none) mNil))) (mC (.int 0))) (((env.set il y).set ll (fncD cells p.1 p.2.1)).set ld (.list ds)) = .ok (.bool true) := by
  have ck := capOk_by hp.2
  have eD : mVar ld (((env.set il y).set ll (fncD cells p.1 p.2.1)).set ld (.list ds)) = .ok (.list ds) := by
    unfold mVar
    rw [List.getElem?_set_self (by simpa using h2)]
    rfl
  have eL : (((env.set il y).set ll (fncD cells p.1 p.2.1)).set ld (.list ds))[ll]? = some (fncD cells p.1 p.2.1) := by
    rw [List.getElem?_set_ne hne.symm, List.getElem?_set_self (by simpa using h1)]
  have eX : (mOp2 fIx (mOp2 fAddL (mVar ld) (mLst (mCons (mC .none) mNil))) (mC (.int 0))) (((env.set il y).set ll (fncD cells p.1 p.2.1)).set ld (.list ds)) = .ok (ds.headD .none) := by
    have w := fix_head (env := ((env.set il y).set ll (fncD cells p.1 p.2.1)).set ld (.list ds)) ds hz
    unfold mOp2 at w ⊢
    rw [eD]
    exact w
  have eC : getAll (capIdx N p.2.1) (((env.set il y).set ll (fncD cells p.1 p.2.1)).set ld (.list ds)) = some cs := by
    have n1 : ∀ j ∈ capIdx N p.2.1, j ≠ ld := fun j hj z => (ck.kinds j hj).2 (by rw [z]; simp)
    have n2 : ∀ j ∈ capIdx N p.2.1, j ≠ ll := fun j hj z => (ck.kinds j hj).2 (by rw [z]; simp)
    have n3 : ∀ j ∈ capIdx N p.2.1, j ≠ il := fun j hj z => by
      have w := (ck.kinds j hj).1
      rw [z, hil] at w
      cases w
    rw [getAll_set n1, getAll_set n2, getAll_set n3]
    exact hcs
  unfold mLook
  rw [eX, eL]
  have ef : fncOf (fncD cells p.1 p.2.1) = some (p.1, cellInts cells p.2.1) := rfl
  simp only [Res.bind, Res.opt, ef, hp.1]
  rw [if_pos ⟨trivial, hp.2⟩, eC]
  simp only [Res.bind]
  rw [hf]
  rfl
theorem lc_run (hil : Γ[il]? = some .o) (hne : ll ≠ ld) (h1 : ll < env.length) (h2 : ld < env.length) (y : PyData) : ∀ r : List Lk, LksOk N sc Γ il ll ld r → r.all (seeOne N f env) = true →
    lcGo (gTuple 2 (gMore (gSet ll) (gMore (gSet ld) gNo))) mTrue (mLook cells N sc Γ [ll, ld] f ll (mOp2 fIx (mOp2 fAddL (mVar ld) (mLst (mCons (mC .none) mNil))) (mC (.int 0)))) (env.set il y) (r.map (lkD cells env)) = .ok (List.replicate r.length (.bool true))
  | [], _, _ => rfl
  | p :: r, h, hs => by
    rw [List.all_cons, Bool.and_eq_true] at hs
    obtain ⟨s1, s2⟩ := hs
    have ih := lc_run hil hne h1 h2 y r h.2 s2
    unfold seeOne at s1
    split at s1
    · rename_i ds cs e1 e2
      rw [Bool.and_eq_true] at s1
      obtain ⟨s3, s4⟩ := s1
      split at s4
      · rename_i e3
        have w := look_run (cells := cells) ⟨h.1.1, h.1.2.1⟩ hil hne h1 h2 y (Nat.le_of_ble_eq_true s3) e2 e3
        rw [List.map_cons]
        unfold lcGo
        unfold lkD
        simp only [e1, gTuple, gMore, gSet, gNo, List.length_cons, List.length_nil, mTrue, Nat.beq]
        rw [w]
        simp only
        have ih2 := ih
        unfold lkD at ih2
        rw [ih2]
        rfl
      · cases s4
    · cases s1
theorem bools_true : ∀ n : Nat, boolsOf (List.replicate n (.bool true)) = some (List.replicate n true)
  | 0 => rfl
  | n + 1 => by
    rw [List.replicate_succ]
    unfold boolsOf
    rw [bools_true n]
    rfl
theorem see_ok {items : List Lk} (hne : items ≠ []) (h : LksOk N sc Γ il ll ld items) (hil : Γ[il]? = some .o) (h0 : il ≠ 0) (hn : ll ≠ ld) (hl : il < env.length) (h1 : ll < env.length) (h2 : ld < env.length) (hz : items.length ≤ 1000) (hs : items.all (seeOne N f env) = true) :
    mTail (mX cells il (mFin cells N sc Γ il ll ld f) items) env = mSee N f items env := by
  have hd : ∀ p ∈ items, ∃ ds, p.2.2 env = .ok (.list ds) := fun p hp => by
    have w := List.all_eq_true.mp hs p hp
    unfold seeOne at w
    split at w
    · rename_i e _
      exact ⟨_, e⟩
    · cases w
  have e1 : mFin cells N sc Γ il ll ld f (env.set il (.list (items.map (lkD cells env)))) = .ok (.ret (.bool true)) := by
    have e0 := lc_run (cells := cells) hil hn h1 h2 (.list (items.map (lkD cells env))) items h hs
    unfold mFin
    generalize mLook cells N sc Γ [ll, ld] f ll (mOp2 fIx (mOp2 fAddL (mVar ld) (mLst (mCons (mC .none) mNil))) (mC (.int 0))) = el at e0 ⊢
    generalize gTuple 2 (gMore (gSet ll) (gMore (gSet ld) gNo)) = gg at e0 ⊢
    unfold mRet mOpL mCons mNil mLc mItems mVar
    rw [List.getElem?_set_self hl]
    simp only [Res.opt, Res.bind, seqOf]
    rw [e0]
    have e2 : okLen (List.replicate items.length (PyData.bool true)) = true := by
      unfold okLen
      rw [List.length_replicate]
      exact Nat.ble_eq_true_of_le (by omega)
    simp only [e2, Res.bind, fAll, bools_true, Option.map]
    have e3 : (List.replicate items.length true).all id = true := by simp
    rw [e3]
  unfold mTail mSee
  rw [x_run hne h hl hz hd, e1, hs]
end
section
variable {X : Cx} {Γ Γ' : List Kd} {A : Addr → Prop} {B : Hp} {E : XK} {D : Addr} {rest : List Stmt} {m m' : MS}
theorem rb_imp (h : PSs X rest (tM X.K Γ Γ' A B E D m)) (e : ∀ env : En, env.length = Γ.length → m' env = .bad ∨ m env = m' env) : PSs X rest (tM X.K Γ Γ' A B E D m') := by
  refine ⟨fun pins s σ H Dn I ⟨O, env, p, w⟩ => h.run pins s σ H Dn I ⟨O, env, p, ?_⟩⟩
  rcases e env p.sim.len with q | q
  · rw [q] at w
    exact w.elim
  · rw [q]
    exact w
theorem rb_see {cells : List (Str × Addr)} {N : List Str} {sc : Scope} {Γ1 : List Kd} {il ll ld : Nat} {f : List PyData → Res PyData} {items : List Lk} (h : PSs X rest (tM X.K Γ Γ' A B E D (mTail (mX cells il (mFin cells N sc Γ1 il ll ld f) items)))) (hne : items ≠ []) (ho : LksOk N sc Γ1 il ll ld items) (hil : Γ1[il]? = some .o) (h0 : il ≠ 0) (hn : ll ≠ ld)
    (hl : il < Γ.length) (h1 : ll < Γ.length) (h2 : ld < Γ.length) (hz : items.length ≤ 1000) : PSs X rest (tM X.K Γ Γ' A B E D (mSee N f items)) := by
  refine rb_imp h fun env hlen => ?_
  cases e : items.all (seeOne N f env) with
  | false =>
    refine .inl ?_
    unfold mSee
    rw [e]
  | true => exact .inr (see_ok hne ho hil h0 hn (by omega) (by omega) (by omega) hz e)
end
end PD
set_option maxHeartbeats 2000000
/-! PL 7: if not all([f(pot) for lap in range(n)]): return False; pot an own list that f changes. -/
namespace PD
open PySem PySem.Spec PyProof.Rows L2 PySem.W
def lapGo (f : List PyData → Res PyData) : Nat → List PyData → Option Bool
  | 0, _ => some true
  | n + 1, p => match f [.list p] with
    | .ok r => (setR r).bind fun q => (asB q.1).bind fun b => (lapGo f n q.2).bind fun c => some (b && c)
    | _ => none
def mLaps (n ip : Nat) (f : List PyData → Res PyData) : MS := fun env => (Res.opt env[ip]?).bind fun x => (Res.opt (asL x)).bind fun p => (Res.opt (intsOf p)).bind fun _ => (Res.opt (lapGo f n p)).bind fun b => match b with
  | true => .ok (.next env)
  | false => .ok (.ret (.bool false))
section
variable {X : Cx} {Γ : List Kd} {A : Addr → Prop} {B : Hp} {E : XK} {k kf n ip il : Nat} {K : PySem.W.Frag}
/-- what stands but for the list at D, the new one at L -/
structure Moved (D L : Addr) (H H' : Hp) : Prop where
  tk : ∀ a o, a ≠ D → a ≠ L → H a = some o → Tk H H' a o
theorem Moved.call {D L : Addr} {H H1 H2 : Hp} {vs ws : List V} (m : Moved D L H H1) (hD : H1 D = some (.lst vs)) (s : Same (hideD D H1) H2) : Moved D L H H2 :=
  ⟨fun a o n1 n2 e => (m.tk a o n1 n2 e).trans fun o' e' => hide_tk hD s n1 e'⟩
theorem Moved.app {D L : Addr} {H H1 : Hp} {vs ws : List V} (m : Moved D L H H1) (hL : H1 L = some (.lst vs)) : Moved D L H (upd H1 L (.lst ws)) :=
  ⟨fun a o n1 n2 e => (m.tk a o n1 n2 e).trans fun o' e' => tk_lst hL n2 e'⟩
theorem s_laps {x y fx : Str} {p1 p2 p3 p4 p5 p6 pos p0 pr pc : Pos} {j1 j2 : Nat} {scope : Scope} (z : Cz X E k) (hgd : X.A.guards = some []) (F : FnMG X.prog X.w X.K X.mg X.base kf 1 fx f) (hk : Nat.ble kf k = true) (hN : X.N.Nodup) (hΓ : Γ[ip]? = some .o) (hne : ip ≠ il) (hli : Nat.blt il Γ.length = true) (hn : Nat.ble n 1000 = true) (hnb : Γ.all (fun k => !decide (k = .b)) = true) (hil : Γ[il]? = some .n)
    (hma : X.mg "all" = none) (hmr : X.mg "range" = none) (ok : BlkOk X.N X.env.scope scope [(y, il)])
    (hg : ∀ (s : Shared) (H : Hp) (C : Addr) (cl : List (Str × Addr)) (fp : List Addr), PG (X.blk s H scope (compEnvC scope cl C X.env) fp) (.Name y p2) (gName il))
    (hv : ∀ (s : Shared) (H : Hp) (C : Addr) (cl : List (Str × Addr)) (fp : List Addr), PE (X.blk s H scope (compEnvC scope cl C X.env) fp) (.Name x p1) (tVar ip))
    (hgf : ∀ (s : Shared) (H : Hp) (C : Addr) (cl : List (Str × Addr)) (fp : List Addr), Gl (X.blk s H scope (compEnvC scope cl C X.env) fp) fx) (hdb : (fx == ("__debug__" : Str)) = false := by decide)
    (hs1 : ∀ (cl : List (Str × Addr)) (C : Addr), starEach [.Name x p1] (compEnvC scope cl C X.env) = (false, eval (.Name x p1) (compEnvC scope cl C X.env)) :: starEach [] (compEnvC scope cl C X.env) := by intro _ _; rfl)
    (hga : Gl X "all" := by rfl) (hgr : Gl X "range" := by rfl)
    (hsA : starEach [Expr.ListComp (.Call (.Name fx p3) [.Name x p1] [] p4) [⟨.Name y p2, .Call (.Name "range" p5) [.Constant (.int n) j1 pc] [] p6, [], 0⟩] scope p0] X.env = (false, eval (Expr.ListComp (.Call (.Name fx p3) [.Name x p1] [] p4) [⟨.Name y p2, .Call (.Name "range" p5) [.Constant (.int n) j1 pc] [] p6, [], 0⟩] scope p0) X.env) :: starEach [] X.env := by rfl)
    (hsR : starEach [Expr.Constant (.int n) j1 pc] X.env = [(false, eval (Expr.Constant (.int n) j1 pc) X.env)] := by rfl) :
    ∀ {pn pa pf : Pos} {ja : Pos}, PS X (.If (.UnaryOp .Not (.Call (.Name "all" pa) [.ListComp (.Call (.Name fx p3) [.Name x p1] [] p4) [⟨.Name y p2, .Call (.Name "range" p5) [.Constant (.int n) j1 pc] [] p6, [], 0⟩] scope p0] [] ja) pn) [.Return (some (.Constant (.bool false) j2 pr)) pf] [] pos)
      (tS X.K Γ (Γ.set ip .n) A B E .p (mLaps n ip f)) := by
  intro pn pa pf ja
  obtain ⟨fa, fd, ps, F, hm, hkp, hb⟩ := F.ex
  have el : ∀ (s : Shared) (H : Hp) (C : Addr) (cl : List (Str × Addr)) (fp : List Addr), PE (X.blk s H scope (compEnvC scope cl C X.env) fp) (.Call (.Name fx p3) [.Name x p1] [] p4) (tCall (spM X.K 1 f) [] E0 (tCons (tVar ip) tNil)) := fun s H C cl fp =>
    pe_callG hgd F (z.room.mono (Nat.le_of_ble_eq_true hk)) (hgf s H C cl fp) hm hkp hb z.blk.pass (pa_cons (hv s H C cl fp) pa_nil (hs1 cl C)) hdb (hs1 cl C) rfl
  have lc := pe_lc (pos := p0) z.calm hN (pi_range1 (pos := p6) (p := p5) hgr hmr (pa_cons pe_int pa_nil (by exact hsR)) hsR) ok hg (fun _ _ _ _ _ => pts_nil) el (by intro _; rfl)
  have al := pe_callB (pos := ja) (p := pa) (cr_all z.calm) hga hma bt_all (pa_cons lc pa_nil hsA) (he := hsA)
  have hP := ps_if (pos := pos) (pt_not (pos := pn) (pt_val al)) (pss_one (ps_ret (pos := pf) (pe_bl (b := false) (j := j2) (pos := pr)))) pss_nil
  refine ⟨fun pins s σ H Dn I ⟨O, env, si, q⟩ => hP.run pins s σ H Dn I ?_⟩
  have c := si.cor
  obtain ⟨D, vs, xs, hO, hσ, henv, hD, hd⟩ := si.ownAt hΓ
  unfold mLaps at q
  rw [henv] at q
  simp only [Res.opt, Res.bind, asL] at q
  cases ei : intsOf xs with
  | none => simp only [ei] at q
  | some is =>
    have ev := ints_dv hd ei
    have ex := ints_back ei
    subst ex
    subst ev
    simp only [ei] at q
    cases eb : lapGo f n (is.map .int) with
    | none => simp only [eb] at q
    | some bb =>
      simp only [eb] at q
      have hD0 : ¬ A D := c.ao ⟨ip, hO⟩
      have hn' : n ≤ 1000 := Nat.le_of_ble_eq_true hn
      have lenσ : il < σ.length := by rw [si.lenS]; exact Nat.le_of_ble_eq_true hli
      refine ⟨(n : Int), rfl, by omega, by omega, fun L hL => ?_⟩
      have nDL : D ≠ L := ne_of_none hD hL
      have tabs1 : ∀ {H' : Hp}, Moved D L H H' → LamX.Tabs PD.tabs H' := fun {H'} mv p hp => by
        have t := c.tabs p hp
        obtain ⟨ps, e, _⟩ := c.tabs p hp
        exact (mv.tk p.1 _ (fun w => by rw [w, hD] at e; cases e) (ne_of_none e hL) e).2 p.2 hp t
      refine lc_range (lo := 0) (n := (n : Int).toNat) (fun i H' => i ≤ n ∧ Moved D L H H' ∧ ∃ (is' : List Int) (acc : List Bool) (b' : Bool), H' D = some (.lst (is'.map V.int)) ∧ H' L = some (.lst (acc.map V.bl)) ∧ acc.length = i ∧ lapGo f (n - i) (is'.map .int) = some b' ∧ (acc.all id && b') = bb)
        ⟨Nat.zero_le _, ⟨fun a o _ _ e => laid_same hL a o e⟩, is, [], bb, by rw [upd_ne nDL]; exact hD, upd_same, rfl, by simpa using eb, by simp⟩ (fun i H1 hi ⟨_, mv, is', acc, b', e1, e2, e3, e4, e5⟩ => ?_) fun H1 ⟨_, mv, is', acc, b', e1, e2, e3, e4, e5⟩ => ?_
      · -- a turn
        have hi' : i < n := by simpa using hi
        have hni : n - i = (n - (i + 1)) + 1 := by omega
        rw [hni] at e4
        unfold lapGo at e4
        refine ⟨?_, .ref D, ?_, ?_⟩
        · show (((σ.set il none).set il (some (V.int (0 + (i : Nat))))).set il none) = σ.set il none
          rw [List.set_set, List.set_set]
        · show ((σ.set il none).set il (some (V.int (0 + (i : Nat)))))[ip]? = some (some (.ref D))
          rw [List.set_set, List.getElem?_set_ne (Ne.symm hne)]
          exact hσ
        · show spM X.K 1 f [.ref D] H1 _ E0
          refine ⟨rfl, tabs1 mv, fun a => a = D, D, is', [], [], rfl, rfl, e1, fun a w => by rw [w, e1]; simp, .nil, ?_⟩
          cases ef : f [.list (is'.map .int)] with
          | bad => rw [ef] at e4; cases e4
          | exc cc y => rw [ef] at e4; cases e4
          | ok r =>
            rw [ef] at e4
            simp only at e4
            cases e6 : setR r with
            | none => rw [e6] at e4; cases e4
            | some yp =>
              obtain ⟨y, pp⟩ := yp
              rw [e6] at e4
              obtain ⟨is0, rfl, rfl⟩ := setR_some e6
              simp only [Option.bind] at e4
              cases y with
              | bool b =>
                simp only [asB] at e4
                cases e7 : lapGo f (n - (i + 1)) (is0.map .int) with
                | none => rw [e7] at e4; cases e4
                | some cb =>
                  rw [e7] at e4
                  cases e4
                  intro v is'' H2 h1 sm hD2 dv
                  injection h1 with h1
                  cases dv
                  have hL2 : H2 L = some (.lst (acc.map V.bl)) := (show Tk (hideD D H1) H2 L (.lst (acc.map V.bl)) from sm L _ (by rw [hideD_ne nDL.symm]; exact e2))
                  refine ⟨acc.map V.bl, hL2, by rw [List.length_map, sizeLine_eq]; omega, by omega, (mv.call (ws := []) e1 sm).app hL2, is'', acc ++ [b], cb, ?_, ?_, ?_, ?_, ?_⟩
                  · rw [upd_ne nDL]
                    exact hD2
                  · rw [upd_same, List.map_append]
                    rfl
                  · rw [List.length_append, e3]
                    rfl
                  · rw [← h1]
                    exact e7
                  · rw [← e5, List.all_append]
                    simp [Bool.and_assoc]
              | _ => simp only [asB] at e4; cases e4
      · have hi0 : n - (n : Int).toNat = 0 := by simp
        rw [hi0] at e4
        cases e4
        rw [Bool.and_true] at e5
        refine ⟨L, acc, rfl, .inl (.inl e2), _, rfl, ?_⟩
        have old : ∀ {a : Addr}, H a ≠ none → a ≠ L := fun {a} w e => w (by rw [e]; exact hL)
        have sB : Same B H1 := fun a o e => by
          have n1 : a ≠ D := fun w => by rw [w, c.ob ip D hO] at e; cases e
          have w := c.same a o e
          exact w.trans fun o' e' => mv.tk a o' n1 (old (by rw [e']; simp)) e'
        rw [e5]
        cases bb with
        | false =>
          simp only at q
          exact (if_pos rfl).mpr (q (.bl false) H1 sB (.bl false))
        | true =>
          simp only at q
          refine (if_neg (by simp)).mpr ?_
          have w := si.weak (kles_set Γ ip)
          have c' := w.cor
          have ownD : ∀ a, own (owOf (Γ.set ip .n) O) a → a ≠ D := fun a ⟨j, e⟩ z => by
            obtain ⟨e1, e2⟩ := owOf_some e
            have : j = ip := c.inj j ip D (by rw [e1, z]) hO
            subst this
            rw [List.getElem?_set_self (by rcases List.getElem?_eq_some_iff.mp hΓ with ⟨h, _⟩; exact h)] at e2
            cases e2
          have there : ∀ a, H a ≠ none → H1 a ≠ none := fun a w => by
            by_cases e : a = D
            · rw [e, e1]; simp
            · cases q2 : H a with
              | none => exact absurd q2 w
              | some o => exact (mv.tk a o e (old w) q2).some
          have keepD : ∀ {v : V} {x : PyData}, Dv X.K H (sset .p A O) v x → Dv X.K H1 (sset .p A (owOf (Γ.set ip .n) O)) v x := fun {v x} d =>
            Dv.mono (fun a o nS e => mv.tk a o (fun z => nS (.inr ⟨ip, by rw [z]; exact hO⟩)) (old (by rw [e]; simp)) e) (fun a nS _ z => nS (z.imp id owOf_own)) x d
          have keepA : ∀ {v : List V} {x : List PyData}, DvAll X.K H (sset .p A O) v x → DvAll X.K H1 (sset .p A (owOf (Γ.set ip .n) O)) v x := fun {v x} d =>
            DvAll.mono (fun a o nS e => mv.tk a o (fun z => nS (.inr ⟨ip, by rw [z]; exact hO⟩)) (old (by rw [e]; simp)) e) (fun a nS _ z => nS (z.imp id owOf_own)) x d
          refine q (owOf (Γ.set ip .n) O) σ H1 ⟨fun a o no e => mv.tk a o (fun z => no ⟨ip, by rw [z]; exact hO⟩) (old (by rw [e]; simp)) e, fun a w => .inl (owOf_own w), fun a w => there a w⟩
            ⟨⟨sB, fun a w => there a (c.an' a w), c'.ao', c'.ob, fun j a e => there a (c.oh j a (owOf_some e).1), c'.inj, tabs1 mv⟩, w.len, w.lenS, fun j kd hj hk2 => ?_, w.owns⟩
          have hj' : j ≠ ip := fun e => by
            subst e
            rw [List.getElem?_set_self (by rcases List.getElem?_eq_some_iff.mp hΓ with ⟨h, _⟩; exact h)] at hj
            cases hj
            exact hk2 rfl
          have hj0 : Γ[j]? = some kd := by rw [List.getElem?_set_ne (Ne.symm hj')] at hj; exact hj
          obtain ⟨v, x, h1, h2, h3⟩ := si.slot j kd hj0 hk2
          refine ⟨v, x, h1, h2, ?_⟩
          cases kd with
          | n => trivial
          | d => exact keepD h3
          | b =>
            have z2 := List.all_eq_true.mp hnb _ (List.mem_of_getElem? hj0)
            simp at z2
          | o =>
            obtain ⟨a, us, ys, g1, g2, g3, g4, g5⟩ := h3
            have na : a ≠ D := fun z => hj' (c.inj j ip D (by rw [g1, z]) hO)
            refine ⟨a, us, ys, ?_, g2, g3, mv.tk a _ na (old (by rw [g4]; simp)) g4, keepA g5⟩
            unfold owOf
            rw [hj]
            exact g1
end
end PD
set_option maxHeartbeats 2000000
/-! PD 20: list(range(n)), tuple(range(n)). -/
namespace PD
open PySem PySem.Spec PyProof.Rows L2 PySem.W
def rgD (n : Int) : List PyData := (List.range n.toNat).map fun i => .int (i : Nat)
def fListRg : PyData → Option PyData
  | .int n => match decide (0 ≤ n) && decide (n ≤ 16777216) with
    | true => some (.list (rgD n))
    | false => none
  | _ => none
def fTupleRg : PyData → Option PyData
  | .int n => match decide (0 ≤ n) && decide (n ≤ 16777216) with
    | true => some (.tuple (rgD n))
    | false => none
  | _ => none
theorem rg_dv {K : PySem.W.Frag} {H : Hp} {S : Addr → Prop} {n : Int} : DvAll K H S (rgV 0 n) (rgD n) := by
  have key : ∀ l : List Nat, DvAll K H S (l.map fun i => V.int (0 + (i : Nat))) (l.map fun i => PyData.int (i : Nat)) := by
    intro l
    induction l with
    | nil => exact .nil
    | cons i l ih =>
      rw [List.map_cons, List.map_cons]
      refine .cons ?_ ih
      rw [Int.zero_add]
      exact .int _
  unfold rgV rgD
  rw [Int.sub_zero]
  exact key _
section
variable {X : Cx} {Γ : List Kd} {A : Addr → Prop} {B : Hp} {E : XK} {a : Expr} {fa : Fl} {ma : ME} {p p2 pos pos2 : Pos} {k : Nat}
theorem j_listRg (z : Cz X E k) (hm : X.mg "list" = none) (hm2 : X.mg "range" = none) (ha : PE X a (tE X.K Γ A B E fa ma)) (hg : Gl X "list" := by rfl) (hg2 : Gl X "range" := by rfl) (hs : starEach [a] X.env = (false, eval a X.env) :: starEach [] X.env := by rfl)
    (hs2 : starEach [.Call (.Name "range" p2) [a] [] pos2] X.env = (false, eval (.Call (.Name "range" p2) [a] [] pos2) X.env) :: starEach [] X.env := by rfl) : PE X (.Call (.Name "list" p) [.Call (.Name "range" p2) [a] [] pos2] [] pos) (tE X.K Γ A B E .f (mOp1 fListRg ma)) := by
  have hP := pe_listRg (pos := pos) (p := p) z.calm hg hm (prg_1 (pos := pos2) (p := p2) hg2 hm2 ha hs) hs2
  refine ⟨fun pins s σ H Q I ⟨O, env, m, q⟩ => hP.run pins s σ H Q I ⟨O, env, m, ?_⟩⟩
  unfold mOp1 at q
  cases e1 : ma env with
  | bad => rw [e1] at q; exact q
  | exc c x => rw [e1] at q; exact q
  | ok x =>
    rw [e1] at q
    simp only [Res.bind] at q
    intro v H1 s1 r1
    have c1 := m.cor.up s1
    cases x with
    | int n =>
      simp only [fListRg] at q
      cases e2 : decide (0 ≤ n) && decide (n ≤ 16777216) with
      | false => simp only [e2, Res.opt] at q
      | true =>
        simp only [e2, Res.opt] at q
        rw [Bool.and_eq_true, decide_eq_true_eq, decide_eq_true_eq] at e2
        cases r1.any c1
        refine ⟨n, rfl, RgOk.of_le (Int.le_refl _) e2.2 (by decide) e2.1, fun d hd => q _ _ (s1.trans (laid_same hd)) ?_⟩
        exact ⟨d, _, _, rfl, rfl, upd_same, c1.bn hd, c1.an hd, c1.on hd, rg_dv⟩
    | _ => simp only [fListRg, Res.opt] at q
theorem j_tupleRg (z : Cz X E k) (hm : X.mg "tuple" = none) (hm2 : X.mg "range" = none) (ha : PE X a (tE X.K Γ A B E fa ma)) (hg : Gl X "tuple" := by rfl) (hg2 : Gl X "range" := by rfl) (hs : starEach [a] X.env = (false, eval a X.env) :: starEach [] X.env := by rfl)
    (hs2 : starEach [.Call (.Name "range" p2) [a] [] pos2] X.env = (false, eval (.Call (.Name "range" p2) [a] [] pos2) X.env) :: starEach [] X.env := by rfl) : PE X (.Call (.Name "tuple" p) [.Call (.Name "range" p2) [a] [] pos2] [] pos) (tE X.K Γ A B E .p (mOp1 fTupleRg ma)) := by
  have hP := pe_tupRg (pos := pos) (p := p) z.calm hg hm (prg_1 (pos := pos2) (p := p2) hg2 hm2 ha hs) hs2
  refine ⟨fun pins s σ H Q I ⟨O, env, m, q⟩ => hP.run pins s σ H Q I ⟨O, env, m, ?_⟩⟩
  unfold mOp1 at q
  cases e1 : ma env with
  | bad => rw [e1] at q; exact q
  | exc c x => rw [e1] at q; exact q
  | ok x =>
    rw [e1] at q
    simp only [Res.bind] at q
    intro v H1 s1 r1
    have c1 := m.cor.up s1
    cases x with
    | int n =>
      simp only [fTupleRg] at q
      cases e2 : decide (0 ≤ n) && decide (n ≤ 16777216) with
      | false => simp only [e2, Res.opt] at q
      | true =>
        simp only [e2, Res.opt] at q
        rw [Bool.and_eq_true, decide_eq_true_eq, decide_eq_true_eq] at e2
        cases r1.any c1
        refine ⟨n, rfl, RgOk.of_le (Int.le_refl _) e2.2 (by decide) e2.1, fun d hd => q _ _ (s1.trans (laid_same hd)) ?_⟩
        exact Dv.tup (.inl ⟨fun w => w.elim (c1.an hd) (c1.on hd), .inl upd_same⟩) rg_dv
    | _ => simp only [fTupleRg, Res.opt] at q
end
end PD
set_option maxHeartbeats 4000000
namespace PG
open PySem PySem.Spec PyProof.Rows L2 PD
abbrev top (i : Nat) : Stmt := ptop i
/-- the own errors -/
def CS : List Str := ["BadPlace", "BadQueue", "BadRow", "NotAll"]
structure Gs (P : Program) (K : PySem.W.Frag) (mg : Str → Option Value) : Prop where
  b_abs : mg "abs" = none
  b_all : mg "all" = none
  b_bool : mg "bool" = none
  b_enumerate : mg "enumerate" = none
  b_int : mg "int" = none
  b_isinstance : mg "isinstance" = none
  b_len : mg "len" = none
  b_list : mg "list" = none
  b_max : mg "max" = none
  b_min : mg "min" = none
  b_range : mg "range" = none
  b_repr : mg "repr" = none
  b_set : mg "set" = none
  b_sorted : mg "sorted" = none
  b_str : mg "str" = none
  b_sum : mg "sum" = none
  b_tuple : mg "tuple" = none
  b_zip : mg "zip" = none
  c_MOST_CHILDREN : ∃ t, mg "MOST_CHILDREN" = some (.int 6 t)
  c_MOST_COME : ∃ t, mg "MOST_COME" = some (.int 20 t)
  c_MOST_DUE : ∃ t, mg "MOST_DUE" = some (.int 30 t)
  c_MOST_NEED : ∃ t, mg "MOST_NEED" = some (.int 6 t)
  c_MOST_SUM : ∃ t, mg "MOST_SUM" = some (.int 1000 t)
  c_NONE : ∃ t, mg "NONE" = some (.str "none" t)
  c_PLAN : ∃ t, mg "PLAN" = some (.str "plan" t)
  c_PLAN_TICKS : ∃ t, mg "PLAN_TICKS" = some (.int 30 t)
  c_ROW : ∃ t, mg "ROW" = some (.str "row" t)
  c_SPAN : ∃ t, mg "SPAN" = some (.str "span" t)
  c_THREE_queues : ∃ t, mg "THREE_queues" = some (.int 3 t)
  c_THREE_serving : ∃ t, mg "THREE_serving" = some (.int 3 t)
  e_BadPlace : Ex P K mg "BadPlace"
  e_BadQueue : Ex P K mg "BadQueue"
  e_BadRow : Ex P K mg "BadRow"
  e_NotAll : Ex P K mg "NotAll"
  i_BadPlace : IsE K "BadPlace" CS
  i_BadQueue : IsE K "BadQueue" CS
  i_BadRow : IsE K "BadRow" CS
  i_NotAll : IsE K "NotAll" CS
  v_VanError : mg "VanError" = some (.ref (He.ga K "VanError"))
  v_exm : ∀ c ∈ CS, PySem.W.exmOne K (.ref (He.ga K c)) (.ref (He.ga K "VanError")) = some true
  x_all : ∀ c ∈ CS, ExK K (He.ga K c)
section
variable {P : Program} {w : World} {K : PySem.W.Frag} {mg : Str → Option Value} {base : Heap}
/-! is_integer -/
abbrev st_is_integer : Stmt := top 7
abbrev N_is_integer : List Str := ["value"]
def m_is_integer : MS := (mRet (mAndV (mOp1 (fIsa .int) (mVar 0)) (mOp1 fNot (mOp1 (fIsa .bool) (mVar 0)))))
def f_is_integer : List PyData → Res PyData := runFn m_is_integer 0
theorem sc_is_integer : FnScope N_is_integer ["value"] (defScope st_is_integer) := ⟨rfl, rfl, rfl, by decide +kernel, rfl, by decide +kernel, by decide +kernel⟩
theorem b_is_integer {fa : Addr} {cdv : Value} (g : Gs P K mg)  : Body P w K mg base N_is_integer "is_integer" (defScope st_is_integer) fa cdv (defBody st_is_integer) 0 1 0 .p m_is_integer := by
  intro A0 outer s H E A X z tk ps
  exact ⟨[], b_one (s_ret rfl (j_and (fl := .p) (j_isa (t := .int) g.b_isinstance (j_var (k := .d) (by decide) rfl (pv 0)) (pe_bltn rfl g.b_int bt_int rfl)) (j_one (j_not (j_isa (t := .bool) g.b_isinstance (j_var (k := .d) (by decide) rfl (pv 0)) (pe_bltn rfl g.b_bool bt_bool rfl))))))⟩
/-! is_between -/
abbrev st_is_between : Stmt := top 8
abbrev N_is_between : List Str := ["value", "low", "high"]
def m_is_between : MS := (mRet (mAndV (mCall f_is_integer (mCons (mVar 0) mNil)) (mChain (gd fLe) (gd fLe) (mVar 1) (mVar 0) (mVar 2))))
def f_is_between : List PyData → Res PyData := runFn m_is_between 0
theorem sc_is_between : FnScope N_is_between ["value", "low", "high"] (defScope st_is_between) := ⟨rfl, rfl, rfl, by decide +kernel, rfl, by decide +kernel, by decide +kernel⟩
theorem b_is_between {fa : Addr} {cdv : Value} (g : Gs P K mg) (F_is_integer : Fn P w K mg base 1 1 .p "is_integer" f_is_integer) : Body P w K mg base N_is_between "is_between" (defScope st_is_between) fa cdv (defBody st_is_between) 1 3 0 .p m_is_between := by
  intro A0 outer s H E A X z tk ps
  exact ⟨[], b_one (s_ret rfl (j_and (fl := .p) (j_call F_is_integer z rfl (.inl rfl) (.inl rfl) rfl (l_cons (j_var (k := .d) (by decide) rfl (pv 0)) l_nil)) (j_one (j_chain (c_le z) (c_le z) (j_var (k := .d) (by decide) rfl (pv 1)) (j_var (k := .d) (by decide) rfl (pv 0)) (j_var (k := .d) (by decide) rfl (pv 2))))))⟩
/-! are_between -/
abbrev st_are_between : Stmt := top 9
abbrev N_are_between : List Str := ["value", "low", "high", "one"]
def m_are_between : MS := (mRet (mAndV (mOp1 (fIsa .tuple) (mVar 0)) (mOpL fAll (mCons (mLc (mItems (mVar 0)) (gSet 3) mTrue (mCall f_is_between (mCons (mVar 3) (mCons (mVar 1) (mCons (mVar 2) mNil))))) mNil))))
def f_are_between : List PyData → Res PyData := runFn m_are_between 1
theorem sc_are_between : FnScope N_are_between ["value", "low", "high"] (defScope st_are_between) := ⟨rfl, rfl, rfl, by decide +kernel, rfl, by decide +kernel, by decide +kernel⟩
theorem b_are_between {fa : Addr} {cdv : Value} (g : Gs P K mg) (F_is_between : Fn P w K mg base 2 3 .p "is_between" f_is_between) : Body P w K mg base N_are_between "are_between" (defScope st_are_between) fa cdv (defBody st_are_between) 2 3 1 .p m_are_between := by
  intro A0 outer s H E A X z tk ps
  exact ⟨[], b_one (s_ret rfl (j_and (fl := .p) (j_isa (t := .tuple) g.b_isinstance (j_var (k := .d) (by decide) rfl (pv 0)) (pe_bltn rfl g.b_tuple bt_tuple rfl)) (j_one (j_all z g.b_all (j_lc (own := [("one", 3)]) z sc_are_between.nd (i_seq (fun _ => rfl) (j_var (k := .d) (by decide) rfl (pv 0))) (blkOk_by rfl) rfl (.inl rfl) (fun _ _ _ _ _ _ => g_name (k := .d) sc_are_between.nd rfl (by first | exact .inl rfl | exact .inr rfl) rfl rfl (by decide) (by decide)) (fun _ _ _ _ _ _ => t_none) (fun _ _ _ _ _ _ => j_call F_is_between z.blk rfl (.inl rfl) (.inl rfl) rfl (l_cons (j_var (k := .d) (by decide) rfl (pv 3)) (l_cons (j_var (k := .d) (by decide) rfl (pv 1)) (l_cons (j_var (k := .d) (by decide) rfl (pv 2)) l_nil)))))))))⟩
/-! is_ascending -/
abbrev st_is_ascending : Stmt := top 10
abbrev N_is_ascending : List Str := ["items", "one", "other"]
def m_is_ascending : MS := (mRet (mOpL fAll (mCons (mLc (mZip (mVar 0) (mSlA (mVar 0) (mPart (mC (.int 1))) mNo)) (gTuple 2 (gMore (gSet 1) (gMore (gSet 2) gNo))) mTrue (mOp2 (gd fLt) (mVar 1) (mVar 2))) mNil)))
def f_is_ascending : List PyData → Res PyData := runFn m_is_ascending 2
theorem sc_is_ascending : FnScope N_is_ascending ["items"] (defScope st_is_ascending) := ⟨rfl, rfl, rfl, by decide +kernel, rfl, by decide +kernel, by decide +kernel⟩
theorem b_is_ascending {fa : Addr} {cdv : Value} (g : Gs P K mg)  : Body P w K mg base N_is_ascending "is_ascending" (defScope st_is_ascending) fa cdv (defBody st_is_ascending) 0 1 2 .p m_is_ascending := by
  intro A0 outer s H E A X z tk ps
  exact ⟨[], b_one (s_ret rfl (j_all z g.b_all (j_lc (own := [("one", 1), ("other", 2)]) z sc_is_ascending.nd (i_zip (fun _ => rfl) (fun _ => rfl) g.b_zip (j_var (k := .d) (by decide) rfl (pv 0)) (j_sl (j_var (k := .d) (by decide) rfl (pv 0)) (o_part (j_const pe_int (.int _))) o_no)) (blkOk_by rfl) rfl (.inl rfl) (fun _ _ _ _ _ _ => g_tup z.blk.calm (g_cons ⟨by decide, by decide⟩ (g_name (k := .d) sc_is_ascending.nd rfl (by first | exact .inl rfl | exact .inr rfl) rfl rfl (by decide) (by decide)) (g_cons ⟨by decide, by decide⟩ (g_name (k := .d) sc_is_ascending.nd rfl (by first | exact .inl rfl | exact .inr rfl) rfl rfl (by decide) (by decide)) g_nil))) (fun _ _ _ _ _ _ => t_none) (fun _ _ _ _ _ _ => j_lt z.blk (j_var (k := .d) (by decide) rfl (pv 1)) (j_var (k := .d) (by decide) rfl (pv 2))))))⟩
/-! is_child -/
abbrev st_is_child : Stmt := top 18
abbrev N_is_child : List Str := ["value"]
def m_is_child : MS := (mSeq (mIfS (mOrT (mNotT (mTest (mOp1 (fIsa .tuple) (mVar 0)) asB)) (mOrT (mTest (mOp2 (gd fNe) (mOpL fLen (mCons (mVar 0) mNil)) (mC (.int 3))) asB) (mNotT (mTest (mCall f_is_between (mCons (mOp2 fIx (mVar 0) (mC (.int 0))) (mCons (mC (.int 0)) (mCons (mC (.int 20)) mNil)))) asB)))) (mRet (mC (.bool false))) mNext) (mRet (mAndV (mCall f_is_between (mCons (mOp2 fIx (mVar 0) (mC (.int 1))) (mCons (mC (.int 1)) (mCons (mC (.int 6)) mNil)))) (mCall f_is_between (mCons (mOp2 fIx (mVar 0) (mOp1 fNeg (mC (.int 1)))) (mCons (mOp2 fAdd (mOp2 fIx (mVar 0) (mC (.int 0))) (mC (.int 1))) (mCons (mC (.int 30)) mNil)))))))
def f_is_child : List PyData → Res PyData := runFn m_is_child 0
theorem sc_is_child : FnScope N_is_child ["value"] (defScope st_is_child) := ⟨rfl, rfl, rfl, by decide +kernel, rfl, by decide +kernel, by decide +kernel⟩
theorem b_is_child {fa : Addr} {cdv : Value} (g : Gs P K mg) (F_is_between : Fn P w K mg base 2 3 .p "is_between" f_is_between) : Body P w K mg base N_is_child "is_child" (defScope st_is_child) fa cdv (defBody st_is_child) 2 1 0 .p m_is_child := by
  intro A0 outer s H E A X z tk ps
  exact ⟨[], b_cons (s_if (PW.pt (k_or (k_not (k_val (j_isa (t := .tuple) g.b_isinstance (j_var (k := .d) (by decide) rfl (pv 0)) (pe_bltn rfl g.b_tuple bt_tuple rfl)))) (k_or (k_ne z (j_len z g.b_len (j_var (k := .d) (by decide) rfl (pv 0))) (j_gint g.c_THREE_queues)) (k_or1 (k_not (k_val (j_call F_is_between z rfl (.inl rfl) (.inl rfl) rfl (l_cons (j_ix (j_var (k := .d) (by decide) rfl (pv 0)) (j_const pe_int (.int _))) (l_cons (j_const pe_int (.int _)) (l_cons (j_gint g.c_MOST_COME) l_nil)))))))))) (b_one (s_ret rfl (j_const pe_bl (.bl _)))) (b_nil)) (b_one (s_ret rfl (j_and (fl := .p) (j_call F_is_between z rfl (.inl rfl) (.inl rfl) rfl (l_cons (j_ix (j_var (k := .d) (by decide) rfl (pv 0)) (j_const pe_int (.int _))) (l_cons (j_const pe_int (.int _)) (l_cons (j_gint g.c_MOST_NEED) l_nil)))) (j_one (j_call F_is_between z rfl (.inl rfl) (.inl rfl) rfl (l_cons (j_ix (j_var (k := .d) (by decide) rfl (pv 0)) (j_neg (j_const pe_int (.int _)))) (l_cons (j_add (j_ix (j_var (k := .d) (by decide) rfl (pv 0)) (j_const pe_int (.int _))) (j_const pe_int (.int _))) (l_cons (j_gint g.c_MOST_DUE) l_nil))))))))⟩
/-! is_queue -/
abbrev st_is_queue : Stmt := top 19
abbrev N_is_queue : List Str := ["value", "child"]
def m_is_queue : MS := (mRet (mAndV (mOp1 (fIsa .tuple) (mVar 0)) (mAndV (mOp2 (gd fLe) (mOpL fLen (mCons (mVar 0) mNil)) (mC (.int 6))) (mOpL fAll (mCons (mLc (mItems (mVar 0)) (gSet 1) mTrue (mCall f_is_child (mCons (mVar 1) mNil))) mNil)))))
def f_is_queue : List PyData → Res PyData := runFn m_is_queue 1
theorem sc_is_queue : FnScope N_is_queue ["value"] (defScope st_is_queue) := ⟨rfl, rfl, rfl, by decide +kernel, rfl, by decide +kernel, by decide +kernel⟩
theorem b_is_queue {fa : Addr} {cdv : Value} (g : Gs P K mg) (F_is_child : Fn P w K mg base 3 1 .p "is_child" f_is_child) : Body P w K mg base N_is_queue "is_queue" (defScope st_is_queue) fa cdv (defBody st_is_queue) 3 1 1 .p m_is_queue := by
  intro A0 outer s H E A X z tk ps
  exact ⟨[], b_one (s_ret rfl (j_and (fl := .p) (j_isa (t := .tuple) g.b_isinstance (j_var (k := .d) (by decide) rfl (pv 0)) (pe_bltn rfl g.b_tuple bt_tuple rfl)) (j_and (fl := .p) (j_le z (j_len z g.b_len (j_var (k := .d) (by decide) rfl (pv 0))) (j_gint g.c_MOST_CHILDREN)) (j_one (j_all z g.b_all (j_lc (own := [("child", 1)]) z sc_is_queue.nd (i_seq (fun _ => rfl) (j_var (k := .d) (by decide) rfl (pv 0))) (blkOk_by rfl) rfl (.inl rfl) (fun _ _ _ _ _ _ => g_name (k := .d) sc_is_queue.nd rfl (by first | exact .inl rfl | exact .inr rfl) rfl rfl (by decide) (by decide)) (fun _ _ _ _ _ _ => t_none) (fun _ _ _ _ _ _ => j_call F_is_child z.blk rfl (.inl rfl) (.inl rfl) rfl (l_cons (j_var (k := .d) (by decide) rfl (pv 1)) l_nil))))))))⟩
/-! check_queue -/
abbrev st_check_queue : Stmt := top 20
abbrev N_check_queue : List Str := ["queue"]
def m_check_queue : MS := (mSeq (mIfS (mNotT (mTest (mCall f_is_queue (mCons (mVar 0) mNil)) asB)) (mRaise "BadQueue" (mVar 0)) mNext) mNext)
def f_check_queue : List PyData → Res PyData := runFn m_check_queue 0
theorem sc_check_queue : FnScope N_check_queue ["queue"] (defScope st_check_queue) := ⟨rfl, rfl, rfl, by decide +kernel, rfl, by decide +kernel, by decide +kernel⟩
theorem b_check_queue {fa : Addr} {cdv : Value} (g : Gs P K mg) (F_is_queue : Fn P w K mg base 4 1 .p "is_queue" f_is_queue) : Body P w K mg base N_check_queue "check_queue" (defScope st_check_queue) fa cdv (defBody st_check_queue) 4 1 0 .p m_check_queue := by
  intro A0 outer s H E A X z tk ps
  exact ⟨_, b_cons (s_if (k_not (k_val (j_call F_is_queue z rfl (.inl rfl) (.inl rfl) rfl (l_cons (j_var (k := .d) (by decide) rfl (pv 0)) l_nil)))) (b_one (s_raise (W := fun _ _ _ _ => False) z tk g.e_BadQueue rfl (j_var (k := .d) (by decide) rfl (pv 0)))) (b_nil)) (b_nil)⟩
/-! is_row_of -/
abbrev st_is_row_of : Stmt := top 21
abbrev N_is_row_of : List Str := ["queue", "value"]
def m_is_row_of : MS := (mRet (mAndV (mCall f_are_between (mCons (mVar 1) (mCons (mC (.int 0)) (mCons (mOp2 fSub (mOpL fLen (mCons (mVar 0) mNil)) (mC (.int 1))) mNil)))) (mOp2 (gd fEq) (mOpL fLenSet (mCons (mVar 1) mNil)) (mOpL fLen (mCons (mVar 1) mNil)))))
def f_is_row_of : List PyData → Res PyData := runFn m_is_row_of 0
theorem sc_is_row_of : FnScope N_is_row_of ["queue", "value"] (defScope st_is_row_of) := ⟨rfl, rfl, rfl, by decide +kernel, rfl, by decide +kernel, by decide +kernel⟩
theorem b_is_row_of {fa : Addr} {cdv : Value} (g : Gs P K mg) (F_are_between : Fn P w K mg base 3 3 .p "are_between" f_are_between) : Body P w K mg base N_is_row_of "is_row_of" (defScope st_is_row_of) fa cdv (defBody st_is_row_of) 3 2 0 .p m_is_row_of := by
  intro A0 outer s H E A X z tk ps
  exact ⟨[], b_one (s_ret rfl (j_and (fl := .p) (j_call F_are_between z rfl (.inl rfl) (.inl rfl) rfl (l_cons (j_var (k := .d) (by decide) rfl (pv 1)) (l_cons (j_const pe_int (.int _)) (l_cons (j_sub (j_len z g.b_len (j_var (k := .d) (by decide) rfl (pv 0))) (j_const pe_int (.int _))) l_nil)))) (j_one (j_eq z (j_lenSet z g.b_len g.b_set (j_var (k := .d) (by decide) rfl (pv 1))) (j_len z g.b_len (j_var (k := .d) (by decide) rfl (pv 1)))))))⟩
/-! is_row -/
abbrev st_is_row : Stmt := top 22
abbrev N_is_row : List Str := ["queue", "value"]
def m_is_row : MS := (mSeq (mDrop (mCall f_check_queue (mCons (mVar 0) mNil))) (mRet (mCall f_is_row_of (mCons (mVar 0) (mCons (mVar 1) mNil)))))
def f_is_row : List PyData → Res PyData := runFn m_is_row 0
theorem sc_is_row : FnScope N_is_row ["queue", "value"] (defScope st_is_row) := ⟨rfl, rfl, rfl, by decide +kernel, rfl, by decide +kernel, by decide +kernel⟩
theorem b_is_row {fa : Addr} {cdv : Value} (g : Gs P K mg) (F_check_queue : Fn P w K mg base 5 1 .p "check_queue" f_check_queue) (F_is_row_of : Fn P w K mg base 4 2 .p "is_row_of" f_is_row_of) : Body P w K mg base N_is_row "is_row" (defScope st_is_row) fa cdv (defBody st_is_row) 5 2 0 .p m_is_row := by
  intro A0 outer s H E A X z tk ps
  exact ⟨[], b_cons (s_drop (j_call F_check_queue z rfl (.inl rfl) (.inl rfl) rfl (l_cons (j_var (k := .d) (by decide) rfl (pv 0)) l_nil))) (b_one (s_ret rfl (j_call F_is_row_of z rfl (.inl rfl) (.inl rfl) rfl (l_cons (j_var (k := .d) (by decide) rfl (pv 0)) (l_cons (j_var (k := .d) (by decide) rfl (pv 1)) l_nil)))))⟩
/-! check_row -/
abbrev st_check_row : Stmt := top 23
abbrev N_check_row : List Str := ["queue", "row"]
def m_check_row : MS := (mSeq (mDrop (mCall f_check_queue (mCons (mVar 0) mNil))) (mSeq (mIfS (mNotT (mTest (mCall f_is_row_of (mCons (mVar 0) (mCons (mVar 1) mNil))) asB)) (mRaise "BadRow" (mVar 1)) mNext) mNext))
def f_check_row : List PyData → Res PyData := runFn m_check_row 0
theorem sc_check_row : FnScope N_check_row ["queue", "row"] (defScope st_check_row) := ⟨rfl, rfl, rfl, by decide +kernel, rfl, by decide +kernel, by decide +kernel⟩
theorem b_check_row {fa : Addr} {cdv : Value} (g : Gs P K mg) (F_check_queue : Fn P w K mg base 5 1 .p "check_queue" f_check_queue) (F_is_row_of : Fn P w K mg base 4 2 .p "is_row_of" f_is_row_of) : Body P w K mg base N_check_row "check_row" (defScope st_check_row) fa cdv (defBody st_check_row) 5 2 0 .p m_check_row := by
  intro A0 outer s H E A X z tk ps
  exact ⟨_, b_cons (s_drop (j_call F_check_queue z rfl (.inl rfl) (.inl rfl) rfl (l_cons (j_var (k := .d) (by decide) rfl (pv 0)) l_nil))) (b_cons (s_if (k_not (k_val (j_call F_is_row_of z rfl (.inl rfl) (.inl rfl) rfl (l_cons (j_var (k := .d) (by decide) rfl (pv 0)) (l_cons (j_var (k := .d) (by decide) rfl (pv 1)) l_nil))))) (b_one (s_raise (W := fun _ _ _ _ => False) z tk g.e_BadRow rfl (j_var (k := .d) (by decide) rfl (pv 1)))) (b_nil)) (b_nil))⟩
/-! is_served -/
abbrev st_is_served : Stmt := top 24
abbrev N_is_served : List Str := ["queue", "tick", "child"]
def m_is_served : MS := (mSeq (mIfS (mTest (mOp1 fIsN (mVar 2)) asB) (mRet (mC (.bool true))) mNext) (mRet (mAndV (mCall f_is_between (mCons (mVar 2) (mCons (mC (.int 0)) (mCons (mOp2 fSub (mOpL fLen (mCons (mVar 0) mNil)) (mC (.int 1))) mNil)))) (mChain (gd fLe) (gd fLt) (mOp2 fIx (mOp2 fIx (mVar 0) (mVar 2)) (mC (.int 0))) (mVar 1) (mOp2 fIx (mOp2 fIx (mVar 0) (mVar 2)) (mOp1 fNeg (mC (.int 1))))))))
def f_is_served : List PyData → Res PyData := runFn m_is_served 0
theorem sc_is_served : FnScope N_is_served ["queue", "tick", "child"] (defScope st_is_served) := ⟨rfl, rfl, rfl, by decide +kernel, rfl, by decide +kernel, by decide +kernel⟩
theorem b_is_served {fa : Addr} {cdv : Value} (g : Gs P K mg) (F_is_between : Fn P w K mg base 2 3 .p "is_between" f_is_between) : Body P w K mg base N_is_served "is_served" (defScope st_is_served) fa cdv (defBody st_is_served) 2 3 0 .p m_is_served := by
  intro A0 outer s H E A X z tk ps
  exact ⟨[], b_cons (s_if (k_isN (j_var (k := .d) (by decide) rfl (pv 2))) (b_one (s_ret rfl (j_const pe_bl (.bl _)))) (b_nil)) (b_one (s_ret rfl (j_and (fl := .p) (j_call F_is_between z rfl (.inl rfl) (.inl rfl) rfl (l_cons (j_var (k := .d) (by decide) rfl (pv 2)) (l_cons (j_const pe_int (.int _)) (l_cons (j_sub (j_len z g.b_len (j_var (k := .d) (by decide) rfl (pv 0))) (j_const pe_int (.int _))) l_nil)))) (j_one (j_chain (c_le z) (c_lt z) (j_ix (j_ix (j_var (k := .d) (by decide) rfl (pv 0)) (j_var (k := .d) (by decide) rfl (pv 2))) (j_const pe_int (.int _))) (j_var (k := .d) (by decide) rfl (pv 1)) (j_ix (j_ix (j_var (k := .d) (by decide) rfl (pv 0)) (j_var (k := .d) (by decide) rfl (pv 2))) (j_neg (j_const pe_int (.int _)))))))))⟩
/-! is_plan_of -/
abbrev st_is_plan_of : Stmt := top 25
abbrev N_is_plan_of : List Str := ["queue", "value", "child", "tick", "come", "need", "due"]
def m_is_plan_of : MS := (mSeq (mIfS (mOrT (mNotT (mTest (mOp1 (fIsa .tuple) (mVar 1)) asB)) (mTest (mOp2 (gd fNe) (mOpL fLen (mCons (mVar 1) mNil)) (mC (.int 30))) asB)) (mRet (mC (.bool false))) mNext) (mSeq (mIfS (mNotT (mTest (mOpL fAll (mCons (mLc (mEnum (mVar 1)) (gTuple 2 (gMore (gSet 3) (gMore (gSet 2) gNo))) mTrue (mCall f_is_served (mCons (mVar 0) (mCons (mVar 3) (mCons (mVar 2) mNil))))) mNil)) asB)) (mRet (mC (.bool false))) mNext) (mRet (mOpL fAll (mCons (mLc (mEnum (mVar 0)) (gTuple 2 (gMore (gSet 2) (gMore (gTuple 3 (gMore (gSet 4) (gMore (gSet 5) (gMore (gSet 6) gNo)))) gNo))) mTrue (mOp2 (gd fLe) mBad (mVar 5))) mNil)))))
def f_is_plan_of : List PyData → Res PyData := runFn m_is_plan_of 5
theorem sc_is_plan_of : FnScope N_is_plan_of ["queue", "value"] (defScope st_is_plan_of) := ⟨rfl, rfl, rfl, by decide +kernel, rfl, by decide +kernel, by decide +kernel⟩
theorem b_is_plan_of {fa : Addr} {cdv : Value} (g : Gs P K mg) (F_is_served : Fn P w K mg base 3 3 .p "is_served" f_is_served) : Body P w K mg base N_is_plan_of "is_plan_of" (defScope st_is_plan_of) fa cdv (defBody st_is_plan_of) 3 2 5 .p m_is_plan_of := by
  intro A0 outer s H E A X z tk ps
  exact ⟨[], b_cons (s_if (PW.pt (k_or (k_not (k_val (j_isa (t := .tuple) g.b_isinstance (j_var (k := .d) (by decide) rfl (pv 1)) (pe_bltn rfl g.b_tuple bt_tuple rfl)))) (k_or1 (k_ne z (j_len z g.b_len (j_var (k := .d) (by decide) rfl (pv 1))) (j_gint g.c_PLAN_TICKS))))) (b_one (s_ret rfl (j_const pe_bl (.bl _)))) (b_nil)) (b_cons (s_if (k_not (k_val (j_all z g.b_all (j_lc (own := [("tick", 3), ("child", 2)]) z sc_is_plan_of.nd (i_enum (fun _ => rfl) g.b_enumerate (j_var (k := .d) (by decide) rfl (pv 1))) (blkOk_by rfl) rfl (.inl rfl) (fun _ _ _ _ _ _ => g_tup z.blk.calm (g_cons ⟨by decide, by decide⟩ (g_name (k := .d) sc_is_plan_of.nd rfl (by first | exact .inl rfl | exact .inr rfl) rfl rfl (by decide) (by decide)) (g_cons ⟨by decide, by decide⟩ (g_name (k := .d) sc_is_plan_of.nd rfl (by first | exact .inl rfl | exact .inr rfl) rfl rfl (by decide) (by decide)) g_nil))) (fun _ _ _ _ _ _ => t_none) (fun _ _ _ _ _ _ => j_call F_is_served z.blk rfl (.inl rfl) (.inl rfl) rfl (l_cons (j_var (k := .d) (by decide) rfl (pv 0)) (l_cons (j_var (k := .d) (by decide) rfl (pv 3)) (l_cons (j_var (k := .d) (by decide) rfl (pv 2)) l_nil)))))))) (b_one (s_ret rfl (j_const pe_bl (.bl _)))) (b_nil)) (b_one (s_ret rfl (j_all z g.b_all (j_lc (own := [("child", 2), ("come", 4), ("need", 5), ("due", 6)]) z sc_is_plan_of.nd (i_enum (fun _ => rfl) g.b_enumerate (j_var (k := .d) (by decide) rfl (pv 0))) (blkOk_by rfl) rfl (.inl rfl) (fun _ _ _ _ _ _ => g_tup z.blk.calm (g_cons ⟨by decide, by decide⟩ (g_name (k := .d) sc_is_plan_of.nd rfl (by first | exact .inl rfl | exact .inr rfl) rfl rfl (by decide) (by decide)) (g_cons ⟨by decide, by decide⟩ (g_tup z.blk.calm (g_cons ⟨by decide, by decide⟩ (g_name (k := .d) sc_is_plan_of.nd rfl (by first | exact .inl rfl | exact .inr rfl) rfl rfl (by decide) (by decide)) (g_cons ⟨by decide, by decide⟩ (g_name (k := .d) sc_is_plan_of.nd rfl (by first | exact .inl rfl | exact .inr rfl) rfl rfl (by decide) (by decide)) (g_cons ⟨by decide, by decide⟩ (g_name (k := .d) sc_is_plan_of.nd rfl (by first | exact .inl rfl | exact .inr rfl) rfl rfl (by decide) (by decide)) g_nil)))) g_nil))) (fun _ _ _ _ _ _ => t_none) (fun _ _ _ _ _ _ => j_le z.blk (j_bad (fl := .p)) (j_var (k := .d) (by decide) rfl (pv 5))))))))⟩
/-! is_plan -/
abbrev st_is_plan : Stmt := top 26
abbrev N_is_plan : List Str := ["queue", "value"]
def m_is_plan : MS := (mSeq (mDrop (mCall f_check_queue (mCons (mVar 0) mNil))) (mRet (mCall f_is_plan_of (mCons (mVar 0) (mCons (mVar 1) mNil)))))
def f_is_plan : List PyData → Res PyData := runFn m_is_plan 0
theorem sc_is_plan : FnScope N_is_plan ["queue", "value"] (defScope st_is_plan) := ⟨rfl, rfl, rfl, by decide +kernel, rfl, by decide +kernel, by decide +kernel⟩
theorem b_is_plan {fa : Addr} {cdv : Value} (g : Gs P K mg) (F_check_queue : Fn P w K mg base 5 1 .p "check_queue" f_check_queue) (F_is_plan_of : Fn P w K mg base 4 2 .p "is_plan_of" f_is_plan_of) : Body P w K mg base N_is_plan "is_plan" (defScope st_is_plan) fa cdv (defBody st_is_plan) 5 2 0 .p m_is_plan := by
  intro A0 outer s H E A X z tk ps
  exact ⟨[], b_cons (s_drop (j_call F_check_queue z rfl (.inl rfl) (.inl rfl) rfl (l_cons (j_var (k := .d) (by decide) rfl (pv 0)) l_nil))) (b_one (s_ret rfl (j_call F_is_plan_of z rfl (.inl rfl) (.inl rfl) rfl (l_cons (j_var (k := .d) (by decide) rfl (pv 0)) (l_cons (j_var (k := .d) (by decide) rfl (pv 1)) l_nil)))))⟩
/-! ends_by -/
abbrev st_ends_by : Stmt := top 27
abbrev N_ends_by : List Str := ["queue", "row", "child", "tick", "found"]
def m_ends_by : MS := (mSeq (mPar2 3 4 (mC (.int 0)) (mLst mNil)) (mSeq (mFor (mItems (mVar 1)) (gSet 2) (mSeq (mSet 3 (mOp2 fAdd (mOpL fMax (mCons (mVar 3) (mCons (mOp2 fIx (mOp2 fIx (mVar 0) (mVar 2)) (mC (.int 0))) mNil))) (mOp2 fIx (mOp2 fIx (mVar 0) (mVar 2)) (mC (.int 1))))) (mSeq (mApp 4 (mVar 3)) mNext))) (mRet (mVar 4))))
def f_ends_by : List PyData → Res PyData := runFnF m_ends_by 3
theorem sc_ends_by : FnScope N_ends_by ["queue", "row"] (defScope st_ends_by) := ⟨rfl, rfl, rfl, by decide +kernel, rfl, by decide +kernel, by decide +kernel⟩
theorem b_ends_by {fa : Addr} {cdv : Value} (g : Gs P K mg)  : Body P w K mg base N_ends_by "ends_by" (defScope st_ends_by) fa cdv (defBody st_ends_by) 0 2 3 .f m_ends_by := by
  intro A0 outer s H E A X z tk ps
  exact ⟨[], b_cons (s_par (ki := .d) (kj := .o) z.calm sc_ends_by.nd rfl rfl (by decide) rfl rfl rfl rfl rfl rfl rfl (fun _ => j_const pe_int (.int _)) (fun _ _ => j_lst d_nil)) (b_cons (s_for (vs := [2]) ps z.calm (i_seq (fun _ => rfl) (j_var (k := .d) (by decide) rfl (pv 1))) (g_name (k := .d) sc_ends_by.nd rfl (by first | exact .inl rfl | exact .inr rfl) rfl rfl (by decide) (by decide)) (b_cons (s_set (k := .d) sc_ends_by.nd rfl (by first | exact .inl rfl | exact .inr rfl) rfl rfl (fun _ => j_add (j_max2 z g.b_max (j_var (k := .d) (by decide) rfl (pv 3)) (j_ix (j_ix (j_var (k := .d) (by decide) rfl (pv 0)) (j_var (k := .d) (by decide) rfl (pv 2))) (j_const pe_int (.int _)))) (j_ix (j_ix (j_var (k := .d) (by decide) rfl (pv 0)) (j_var (k := .d) (by decide) rfl (pv 2))) (j_const pe_int (.int _))))) (b_cons (s_app (.inl rfl) rfl (pv 4) (j_var (k := .d) (by decide) rfl (pv 3))) (b_nil' (Γ' := [.d, .d, .n, .d, .o]) rfl)))) (b_one (s_ret rfl (j_var (k := .o) (by decide) rfl (pv 4)))))⟩
/-! ends_of -/
abbrev st_ends_of : Stmt := top 28
abbrev N_ends_of : List Str := ["queue", "row"]
def m_ends_of : MS := (mSeq (mDrop (mCall f_check_row (mCons (mVar 0) (mCons (mVar 1) mNil)))) (mRet (mOpL fTuple (mCons (mCall f_ends_by (mCons (mVar 0) (mCons (mVar 1) mNil))) mNil))))
def f_ends_of : List PyData → Res PyData := runFn m_ends_of 0
theorem sc_ends_of : FnScope N_ends_of ["queue", "row"] (defScope st_ends_of) := ⟨rfl, rfl, rfl, by decide +kernel, rfl, by decide +kernel, by decide +kernel⟩
theorem b_ends_of {fa : Addr} {cdv : Value} (g : Gs P K mg) (F_check_row : Fn P w K mg base 6 2 .p "check_row" f_check_row) (F_ends_by : Fn P w K mg base 1 2 .f "ends_by" f_ends_by) : Body P w K mg base N_ends_of "ends_of" (defScope st_ends_of) fa cdv (defBody st_ends_of) 6 2 0 .p m_ends_of := by
  intro A0 outer s H E A X z tk ps
  exact ⟨[], b_cons (s_drop (j_call F_check_row z rfl (.inl rfl) (.inl rfl) rfl (l_cons (j_var (k := .d) (by decide) rfl (pv 0)) (l_cons (j_var (k := .d) (by decide) rfl (pv 1)) l_nil)))) (b_one (s_ret rfl (j_tuple g.b_tuple (j_call F_ends_by z rfl (.inl rfl) (.inr rfl) rfl (l_cons (j_var (k := .d) (by decide) rfl (pv 0)) (l_cons (j_var (k := .d) (by decide) rfl (pv 1)) l_nil))))))⟩
/-! late_by -/
abbrev st_late_by : Stmt := top 29
abbrev N_late_by : List Str := ["queue", "row", "rows", "child", "end"]
def m_late_by : MS := (mSeq (mSet 2 (mOp2 fListZip (mVar 1) (mCall f_ends_by (mCons (mVar 0) (mCons (mVar 1) mNil))))) (mRet (mOpL (fSorted false) (mCons (mLc (mItems (mVar 2)) (gTuple 2 (gMore (gSet 3) (gMore (gSet 4) gNo))) (mTest (mOp2 (gd fGt) (mVar 4) (mOp2 fIx (mOp2 fIx (mVar 0) (mVar 3)) (mOp1 fNeg (mC (.int 1))))) asB) (mVar 3)) mNil))))
def f_late_by : List PyData → Res PyData := runFnF m_late_by 3
theorem sc_late_by : FnScope N_late_by ["queue", "row"] (defScope st_late_by) := ⟨rfl, rfl, rfl, by decide +kernel, rfl, by decide +kernel, by decide +kernel⟩
theorem b_late_by {fa : Addr} {cdv : Value} (g : Gs P K mg) (F_ends_by : Fn P w K mg base 1 2 .f "ends_by" f_ends_by) : Body P w K mg base N_late_by "late_by" (defScope st_late_by) fa cdv (defBody st_late_by) 1 2 3 .f m_late_by := by
  intro A0 outer s H E A X z tk ps
  exact ⟨[], b_cons (s_set (k := .o) sc_late_by.nd rfl (by first | exact .inl rfl | exact .inr rfl) rfl rfl (fun _ => j_listZip z g.b_list g.b_zip (j_var (k := .d) (by decide) rfl (pv 1)) (j_call F_ends_by z rfl (.inl rfl) (.inr rfl) rfl (l_cons (j_var (k := .d) (by decide) rfl (pv 0)) (l_cons (j_var (k := .d) (by decide) rfl (pv 1)) l_nil))) rfl rfl)) (b_one (s_ret rfl (j_sorted z g.b_sorted (j_lc (own := [("child", 3), ("end", 4)]) z sc_late_by.nd (i_seq (fun _ => by contradiction) (j_var (k := .o) (by decide) rfl (pv 2))) (blkOk_by rfl) rfl (.inl rfl) (fun _ _ _ _ _ _ => g_tup z.blk.calm (g_cons ⟨by decide, by decide⟩ (g_name (k := .d) sc_late_by.nd rfl (by first | exact .inl rfl | exact .inr rfl) rfl rfl (by decide) (by decide)) (g_cons ⟨by decide, by decide⟩ (g_name (k := .d) sc_late_by.nd rfl (by first | exact .inl rfl | exact .inr rfl) rfl rfl (by decide) (by decide)) g_nil))) (fun _ _ _ _ _ _ => t_one (k_gt z.blk (j_var (k := .d) (by decide) rfl (pv 4)) (j_ix (j_ix (j_var (k := .d) (by decide) rfl (pv 0)) (j_var (k := .d) (by decide) rfl (pv 3))) (j_neg (j_const pe_int (.int _)))))) (fun _ _ _ _ _ _ => j_var (k := .d) (by decide) rfl (pv 3))) rfl)))⟩
/-! late_in -/
abbrev st_late_in : Stmt := top 30
abbrev N_late_in : List Str := ["queue", "row"]
def m_late_in : MS := (mSeq (mDrop (mCall f_check_row (mCons (mVar 0) (mCons (mVar 1) mNil)))) (mRet (mOpL fTuple (mCons (mCall f_late_by (mCons (mVar 0) (mCons (mVar 1) mNil))) mNil))))
def f_late_in : List PyData → Res PyData := runFn m_late_in 0
theorem sc_late_in : FnScope N_late_in ["queue", "row"] (defScope st_late_in) := ⟨rfl, rfl, rfl, by decide +kernel, rfl, by decide +kernel, by decide +kernel⟩
theorem b_late_in {fa : Addr} {cdv : Value} (g : Gs P K mg) (F_check_row : Fn P w K mg base 6 2 .p "check_row" f_check_row) (F_late_by : Fn P w K mg base 2 2 .f "late_by" f_late_by) : Body P w K mg base N_late_in "late_in" (defScope st_late_in) fa cdv (defBody st_late_in) 6 2 0 .p m_late_in := by
  intro A0 outer s H E A X z tk ps
  exact ⟨[], b_cons (s_drop (j_call F_check_row z rfl (.inl rfl) (.inl rfl) rfl (l_cons (j_var (k := .d) (by decide) rfl (pv 0)) (l_cons (j_var (k := .d) (by decide) rfl (pv 1)) l_nil)))) (b_one (s_ret rfl (j_tuple g.b_tuple (j_call F_late_by z rfl (.inl rfl) (.inr rfl) rfl (l_cons (j_var (k := .d) (by decide) rfl (pv 0)) (l_cons (j_var (k := .d) (by decide) rfl (pv 1)) l_nil))))))⟩
/-! is_all -/
abbrev st_is_all : Stmt := top 31
abbrev N_is_all : List Str := ["queue", "value"]
def m_is_all : MS := (mRet (mAndV (mCall f_is_row_of (mCons (mVar 0) (mCons (mVar 1) mNil))) (mOp2 (gd fEq) (mOpL fLen (mCons (mVar 1) mNil)) (mOpL fLen (mCons (mVar 0) mNil)))))
def f_is_all : List PyData → Res PyData := runFn m_is_all 0
theorem sc_is_all : FnScope N_is_all ["queue", "value"] (defScope st_is_all) := ⟨rfl, rfl, rfl, by decide +kernel, rfl, by decide +kernel, by decide +kernel⟩
theorem b_is_all {fa : Addr} {cdv : Value} (g : Gs P K mg) (F_is_row_of : Fn P w K mg base 4 2 .p "is_row_of" f_is_row_of) : Body P w K mg base N_is_all "is_all" (defScope st_is_all) fa cdv (defBody st_is_all) 4 2 0 .p m_is_all := by
  intro A0 outer s H E A X z tk ps
  exact ⟨[], b_one (s_ret rfl (j_and (fl := .p) (j_call F_is_row_of z rfl (.inl rfl) (.inl rfl) rfl (l_cons (j_var (k := .d) (by decide) rfl (pv 0)) (l_cons (j_var (k := .d) (by decide) rfl (pv 1)) l_nil))) (j_one (j_eq z (j_len z g.b_len (j_var (k := .d) (by decide) rfl (pv 1))) (j_len z g.b_len (j_var (k := .d) (by decide) rfl (pv 0)))))))⟩
/-! plan_of -/
abbrev st_plan_of : Stmt := top 39
abbrev N_plan_of : List Str := ["queue", "tick", "left", "found", "fine", "child", "come", "need", "due"]
def m_plan_of : MS := (mSeq (mPar2 2 3 (mLc (mItems (mVar 0)) (gTuple 3 (gMore (gSet 6) (gMore (gSet 7) (gMore (gSet 8) gNo)))) mTrue (mVar 7)) (mLst mNil)) (mSeq (mFor (mRange (mCons (mC (.int 30)) mNil)) (gSet 1) (mSeq (mSet 4 (mLc (mEnum (mVar 0)) (gTuple 2 (gMore (gSet 5) (gMore (gTuple 3 (gMore (gSet 6) (gMore (gSet 7) (gMore (gSet 8) gNo)))) gNo))) (mAndT (mTest (mChain (gd fLe) (gd fLt) (mVar 6) (mVar 1) (mVar 8)) asB) (mTest (mOp2 (gd fGt) (mOp2 fIx (mVar 2) (mVar 5)) (mC (.int 0))) asB)) (mVar 5))) (mSeq (mSet 5 (mIfE (mTest (mOp2 (gd fNe) (mVar 4) (mLst mNil)) asB) (mOp2 fIx (mOpL fMin (mCons (mLc (mItems (mVar 4)) (gSet 5) mTrue (mTup (mCons (mOp2 fIx (mOp2 fIx (mVar 0) (mVar 5)) (mOp1 fNeg (mC (.int 1)))) (mCons (mVar 5) mNil)))) mNil)) (mC (.int 1))) (mC .none))) (mSeq (mIfS (mTest (mOp1 fNotN (mVar 5)) asB) (mSeq (mAugI (fun i j => i - j) 2 (mVar 5) (mC (.int 1))) mNext) mNext) (mSeq (mApp 3 (mVar 5)) mNext))))) (mRet (mTup (mCons (mOpL fTuple (mCons (mVar 3) mNil)) (mCons (mOp2 (gd fEq) (mOpL fSum (mCons (mVar 2) mNil)) (mC (.int 0))) mNil))))))
def f_plan_of : List PyData → Res PyData := runFn m_plan_of 8
theorem sc_plan_of : FnScope N_plan_of ["queue"] (defScope st_plan_of) := ⟨rfl, rfl, rfl, by decide +kernel, rfl, by decide +kernel, by decide +kernel⟩
theorem b_plan_of {fa : Addr} {cdv : Value} (g : Gs P K mg)  : Body P w K mg base N_plan_of "plan_of" (defScope st_plan_of) fa cdv (defBody st_plan_of) 0 1 8 .p m_plan_of := by
  intro A0 outer s H E A X z tk ps
  exact ⟨[], b_cons (s_parG (ki := .o) (kj := .o) z.calm sc_plan_of.nd rfl rfl (by first | exact .inl rfl | exact .inr rfl) (by first | exact .inl rfl | exact .inr rfl) rfl rfl rfl rfl rfl (fun _ => j_lc (own := [("come", 6), ("need", 7), ("due", 8)]) z sc_plan_of.nd (i_seq (fun _ => rfl) (j_var (k := .d) (by decide) rfl (pv 0))) (blkOk_by rfl) rfl (.inl rfl) (fun _ _ _ _ _ _ => g_tup z.blk.calm (g_cons ⟨by decide, by decide⟩ (g_name (k := .d) sc_plan_of.nd rfl (by first | exact .inl rfl | exact .inr rfl) rfl rfl (by decide) (by decide)) (g_cons ⟨by decide, by decide⟩ (g_name (k := .d) sc_plan_of.nd rfl (by first | exact .inl rfl | exact .inr rfl) rfl rfl (by decide) (by decide)) (g_cons ⟨by decide, by decide⟩ (g_name (k := .d) sc_plan_of.nd rfl (by first | exact .inl rfl | exact .inr rfl) rfl rfl (by decide) (by decide)) g_nil)))) (fun _ _ _ _ _ _ => t_none) (fun _ _ _ _ _ _ => j_var (k := .d) (by decide) rfl (pv 7))) (fun _ _ => j_lst d_nil)) (b_cons (s_for (vs := [1]) ps z.calm (i_range1 g.b_range (j_gint g.c_PLAN_TICKS)) (g_name (k := .d) sc_plan_of.nd rfl (by first | exact .inl rfl | exact .inr rfl) rfl rfl (by decide) (by decide)) (b_cons (s_setLc (own := [("child", 5), ("come", 6), ("need", 7), ("due", 8)]) (kd := .o) z sc_plan_of.nd rfl rfl rfl rfl (sw_true rfl rfl rfl rfl) (fun _ => i_enum (fun _ => rfl) g.b_enumerate (j_var (k := .d) (by decide) rfl (pv 0))) (blkOk_by rfl) rfl (.inl rfl) (fun _ _ _ _ _ _ _ => g_tup z.blk.calm (g_cons ⟨by decide, by decide⟩ (g_name (k := .d) sc_plan_of.nd rfl (by first | exact .inl rfl | exact .inr rfl) rfl rfl (by decide) (by decide)) (g_cons ⟨by decide, by decide⟩ (g_tup z.blk.calm (g_cons ⟨by decide, by decide⟩ (g_name (k := .d) sc_plan_of.nd rfl (by first | exact .inl rfl | exact .inr rfl) rfl rfl (by decide) (by decide)) (g_cons ⟨by decide, by decide⟩ (g_name (k := .d) sc_plan_of.nd rfl (by first | exact .inl rfl | exact .inr rfl) rfl rfl (by decide) (by decide)) (g_cons ⟨by decide, by decide⟩ (g_name (k := .d) sc_plan_of.nd rfl (by first | exact .inl rfl | exact .inr rfl) rfl rfl (by decide) (by decide)) g_nil)))) g_nil))) (fun _ _ _ _ _ _ _ => t_one (PW.pt (k_and (k_chain (c_le z.blk) (c_lt z.blk) (j_var (k := .d) (by decide) rfl (pv 6)) (j_var (k := .d) (by decide) rfl (pv 1)) (j_var (k := .d) (by decide) rfl (pv 8))) (k_and1 (k_gt z.blk (j_ix (j_var (k := .o) (by decide) rfl (pv 2)) (j_var (k := .d) (by decide) rfl (pv 5))) (j_const pe_int (.int _))))))) (fun _ _ _ _ _ _ _ => j_var (k := .d) (by decide) rfl (pv 5))) (b_cons (s_set (k := .d) sc_plan_of.nd rfl (by first | exact .inl rfl | exact .inr rfl) rfl rfl (fun _ => j_if (k_ne z (j_var (k := .o) (by decide) rfl (pv 4)) (j_lst d_nil)) (j_ix (j_min1 z g.b_min (j_lc (own := [("child", 5)]) z sc_plan_of.nd (i_seq (fun _ => by contradiction) (j_var (k := .o) (by decide) rfl (pv 4))) (blkOk_by rfl) rfl (.inl rfl) (fun _ _ _ _ _ _ => g_name (k := .d) sc_plan_of.nd rfl (by first | exact .inl rfl | exact .inr rfl) rfl rfl (by decide) (by decide)) (fun _ _ _ _ _ _ => t_none) (fun _ _ _ _ _ _ => j_tup ⟨by decide, by decide⟩ (d_cons (j_ix (j_ix (j_var (k := .d) (by decide) rfl (pv 0)) (j_var (k := .d) (by decide) rfl (pv 5))) (j_neg (j_const pe_int (.int _)))) (d_cons (j_var (k := .d) (by decide) rfl (pv 5)) d_nil))))) (j_const pe_int (.int _))) (j_const pe_non .non))) (b_cons (s_if (k_notN (j_var (k := .d) (by decide) rfl (pv 5))) (b_cons (s_augI ip_sub rfl (pv 2) (j_var (k := .d) (by decide) rfl (pv 5)) (j_const pe_int (.int _))) (b_nil)) (b_nil)) (b_cons (s_app (.inl rfl) rfl (pv 3) (j_var (k := .d) (by decide) rfl (pv 5))) (b_nil' (Γ' := [.d, .n, .o, .o, .n, .n, .n, .n, .n]) rfl)))))) (b_one (s_ret rfl (j_tup ⟨by decide, by decide⟩ (d_cons (j_tuple g.b_tuple (j_var (k := .o) (by decide) rfl (pv 3))) (d_cons (j_eq z (j_sum z g.b_sum (j_var (k := .o) (by decide) rfl (pv 2))) (j_const pe_int (.int _))) d_nil))))))⟩
/-! need_in -/
abbrev st_need_in : Stmt := top 40
abbrev N_need_in : List Str := ["queue", "first", "last", "more", "come", "need", "due"]
def m_need_in : MS := (mRet (mOpL fSum (mCons (mLc (mItems (mVar 0)) (gTuple 3 (gMore (gSet 4) (gMore (gSet 5) (gMore (gSet 6) gNo)))) (mAndT (mTest (mOp2 (gd fGe) (mVar 4) (mVar 1)) asB) (mTest (mOp2 (gd fLe) (mOp2 fAdd (mVar 6) (mVar 3)) (mVar 2)) asB)) (mVar 5)) mNil)))
def f_need_in : List PyData → Res PyData := runFn m_need_in 3
theorem sc_need_in : FnScope N_need_in ["queue", "first", "last", "more"] (defScope st_need_in) := ⟨rfl, rfl, rfl, by decide +kernel, rfl, by decide +kernel, by decide +kernel⟩
theorem b_need_in {fa : Addr} {cdv : Value} (g : Gs P K mg)  : Body P w K mg base N_need_in "need_in" (defScope st_need_in) fa cdv (defBody st_need_in) 0 4 3 .p m_need_in := by
  intro A0 outer s H E A X z tk ps
  exact ⟨[], b_one (s_ret rfl (j_sum z g.b_sum (j_lc (own := [("come", 4), ("need", 5), ("due", 6)]) z sc_need_in.nd (i_seq (fun _ => rfl) (j_var (k := .d) (by decide) rfl (pv 0))) (blkOk_by rfl) rfl (.inl rfl) (fun _ _ _ _ _ _ => g_tup z.blk.calm (g_cons ⟨by decide, by decide⟩ (g_name (k := .d) sc_need_in.nd rfl (by first | exact .inl rfl | exact .inr rfl) rfl rfl (by decide) (by decide)) (g_cons ⟨by decide, by decide⟩ (g_name (k := .d) sc_need_in.nd rfl (by first | exact .inl rfl | exact .inr rfl) rfl rfl (by decide) (by decide)) (g_cons ⟨by decide, by decide⟩ (g_name (k := .d) sc_need_in.nd rfl (by first | exact .inl rfl | exact .inr rfl) rfl rfl (by decide) (by decide)) g_nil)))) (fun _ _ _ _ _ _ => t_one (PW.pt (k_and (k_ge z.blk (j_var (k := .d) (by decide) rfl (pv 4)) (j_var (k := .d) (by decide) rfl (pv 1))) (k_and1 (k_le z.blk (j_add (j_var (k := .d) (by decide) rfl (pv 6)) (j_var (k := .d) (by decide) rfl (pv 3))) (j_var (k := .d) (by decide) rfl (pv 2))))))) (fun _ _ _ _ _ _ => j_var (k := .d) (by decide) rfl (pv 5)))))⟩
/-! span_of -/
abbrev st_span_of : Stmt := top 41
abbrev N_span_of : List Str := ["queue", "more", "first", "last", "come", "need", "due"]
def m_span_of : MS := (mSeq (mFor (mItems (mOpL fSortSet (mCons (mLc (mItems (mVar 0)) (gTuple 3 (gMore (gSet 4) (gMore (gSet 5) (gMore (gSet 6) gNo)))) mTrue (mVar 4)) mNil))) (gSet 2) (mSeq (mFor (mItems (mOpL fSortSet (mCons (mLc (mItems (mVar 0)) (gTuple 3 (gMore (gSet 4) (gMore (gSet 5) (gMore (gSet 6) gNo)))) mTrue (mOp2 fAdd (mVar 6) (mVar 1))) mNil))) (gSet 3) (mSeq (mIfS (mTest (mOp2 (gd fGt) (mCall f_need_in (mCons (mVar 0) (mCons (mVar 2) (mCons (mVar 3) (mCons (mVar 1) mNil))))) (mOpL fMax (mCons (mC (.int 0)) (mCons (mOp2 fSub (mVar 3) (mVar 2)) mNil)))) asB) (mRet (mTup (mCons (mVar 2) (mCons (mVar 3) mNil)))) mNext) mNext)) mNext)) (mRet (mC .none)))
def f_span_of : List PyData → Res PyData := runFn m_span_of 5
theorem sc_span_of : FnScope N_span_of ["queue", "more"] (defScope st_span_of) := ⟨rfl, rfl, rfl, by decide +kernel, rfl, by decide +kernel, by decide +kernel⟩
theorem b_span_of {fa : Addr} {cdv : Value} (g : Gs P K mg) (F_need_in : Fn P w K mg base 1 4 .p "need_in" f_need_in) : Body P w K mg base N_span_of "span_of" (defScope st_span_of) fa cdv (defBody st_span_of) 1 2 5 .p m_span_of := by
  intro A0 outer s H E A X z tk ps
  exact ⟨[], b_cons (s_for (vs := [2]) ps z.calm (i_seq (fun _ => rfl) (j_sortSet z g.b_sorted g.b_set (j_lc (own := [("come", 4), ("need", 5), ("due", 6)]) z sc_span_of.nd (i_seq (fun _ => rfl) (j_var (k := .d) (by decide) rfl (pv 0))) (blkOk_by rfl) rfl (.inl rfl) (fun _ _ _ _ _ _ => g_tup z.blk.calm (g_cons ⟨by decide, by decide⟩ (g_name (k := .d) sc_span_of.nd rfl (by first | exact .inl rfl | exact .inr rfl) rfl rfl (by decide) (by decide)) (g_cons ⟨by decide, by decide⟩ (g_name (k := .d) sc_span_of.nd rfl (by first | exact .inl rfl | exact .inr rfl) rfl rfl (by decide) (by decide)) (g_cons ⟨by decide, by decide⟩ (g_name (k := .d) sc_span_of.nd rfl (by first | exact .inl rfl | exact .inr rfl) rfl rfl (by decide) (by decide)) g_nil)))) (fun _ _ _ _ _ _ => t_none) (fun _ _ _ _ _ _ => j_var (k := .d) (by decide) rfl (pv 4))))) (g_name (k := .d) sc_span_of.nd rfl (by first | exact .inl rfl | exact .inr rfl) rfl rfl (by decide) (by decide)) (b_cons (s_for (vs := [3]) ps z.calm (i_seq (fun _ => rfl) (j_sortSet z g.b_sorted g.b_set (j_lc (own := [("come", 4), ("need", 5), ("due", 6)]) z sc_span_of.nd (i_seq (fun _ => rfl) (j_var (k := .d) (by decide) rfl (pv 0))) (blkOk_by rfl) rfl (.inl rfl) (fun _ _ _ _ _ _ => g_tup z.blk.calm (g_cons ⟨by decide, by decide⟩ (g_name (k := .d) sc_span_of.nd rfl (by first | exact .inl rfl | exact .inr rfl) rfl rfl (by decide) (by decide)) (g_cons ⟨by decide, by decide⟩ (g_name (k := .d) sc_span_of.nd rfl (by first | exact .inl rfl | exact .inr rfl) rfl rfl (by decide) (by decide)) (g_cons ⟨by decide, by decide⟩ (g_name (k := .d) sc_span_of.nd rfl (by first | exact .inl rfl | exact .inr rfl) rfl rfl (by decide) (by decide)) g_nil)))) (fun _ _ _ _ _ _ => t_none) (fun _ _ _ _ _ _ => j_add (j_var (k := .d) (by decide) rfl (pv 6)) (j_var (k := .d) (by decide) rfl (pv 1)))))) (g_name (k := .d) sc_span_of.nd rfl (by first | exact .inl rfl | exact .inr rfl) rfl rfl (by decide) (by decide)) (b_cons (s_if (k_gt z (j_call F_need_in z rfl (.inl rfl) (.inl rfl) rfl (l_cons (j_var (k := .d) (by decide) rfl (pv 0)) (l_cons (j_var (k := .d) (by decide) rfl (pv 2)) (l_cons (j_var (k := .d) (by decide) rfl (pv 3)) (l_cons (j_var (k := .d) (by decide) rfl (pv 1)) l_nil))))) (j_max2 z g.b_max (j_const pe_int (.int _)) (j_sub (j_var (k := .d) (by decide) rfl (pv 3)) (j_var (k := .d) (by decide) rfl (pv 2))))) (b_one (s_ret rfl (j_tup ⟨by decide, by decide⟩ (d_cons (j_var (k := .d) (by decide) rfl (pv 2)) (d_cons (j_var (k := .d) (by decide) rfl (pv 3)) d_nil))))) (b_nil)) (b_nil' (Γ' := [.d, .d, .d, .n, .n, .n, .n]) rfl))) (b_nil' (Γ' := [.d, .d, .n, .n, .n, .n, .n]) rfl))) (b_one (s_ret rfl (j_const pe_non .non)))⟩
/-! can_plan -/
abbrev st_can_plan : Stmt := top 42
abbrev N_can_plan : List Str := ["queue"]
def m_can_plan : MS := (mRet (mOp1 fIsN (mCall f_span_of (mCons (mVar 0) (mCons (mC (.int 0)) mNil)))))
def f_can_plan : List PyData → Res PyData := runFn m_can_plan 0
theorem sc_can_plan : FnScope N_can_plan ["queue"] (defScope st_can_plan) := ⟨rfl, rfl, rfl, by decide +kernel, rfl, by decide +kernel, by decide +kernel⟩
theorem b_can_plan {fa : Addr} {cdv : Value} (g : Gs P K mg) (F_span_of : Fn P w K mg base 2 2 .p "span_of" f_span_of) : Body P w K mg base N_can_plan "can_plan" (defScope st_can_plan) fa cdv (defBody st_can_plan) 2 1 0 .p m_can_plan := by
  intro A0 outer s H E A X z tk ps
  exact ⟨[], b_one (s_ret rfl (j_isN (j_call F_span_of z rfl (.inl rfl) (.inl rfl) rfl (l_cons (j_var (k := .d) (by decide) rfl (pv 0)) (l_cons (j_const pe_int (.int _)) l_nil)))))⟩
/-! plan_told -/
abbrev st_plan_told : Stmt := top 43
abbrev N_plan_told : List Str := ["queue", "plan", "is_whole"]
def m_plan_told : MS := (mSeq (mDrop (mCall f_check_queue (mCons (mVar 0) mNil))) (mSeq (mAsg (mCall f_plan_of (mCons (mVar 0) mNil)) (gTuple 2 (gMore (gSet 1) (gMore (gSet 2) gNo)))) (mRet (mIfE (mTest (mVar 2) asB) (mTup (mCons (mC (.str "plan")) (mCons (mVar 1) mNil))) (mTup (mCons (mC (.str "span")) (mStar (mCall f_span_of (mCons (mVar 0) (mCons (mC (.int 0)) mNil))) mNil)))))))
def f_plan_told : List PyData → Res PyData := runFn m_plan_told 2
theorem sc_plan_told : FnScope N_plan_told ["queue"] (defScope st_plan_told) := ⟨rfl, rfl, rfl, by decide +kernel, rfl, by decide +kernel, by decide +kernel⟩
theorem b_plan_told {fa : Addr} {cdv : Value} (g : Gs P K mg) (F_check_queue : Fn P w K mg base 5 1 .p "check_queue" f_check_queue) (F_plan_of : Fn P w K mg base 1 1 .p "plan_of" f_plan_of) (F_span_of : Fn P w K mg base 2 2 .p "span_of" f_span_of) : Body P w K mg base N_plan_told "plan_told" (defScope st_plan_told) fa cdv (defBody st_plan_told) 5 1 2 .p m_plan_told := by
  intro A0 outer s H E A X z tk ps
  exact ⟨[], b_cons (s_drop (j_call F_check_queue z rfl (.inl rfl) (.inl rfl) rfl (l_cons (j_var (k := .d) (by decide) rfl (pv 0)) l_nil))) (b_cons (s_asg (vs := [1, 2]) (j_call F_plan_of z rfl (.inl rfl) (.inl rfl) rfl (l_cons (j_var (k := .d) (by decide) rfl (pv 0)) l_nil)) (g_tup z.calm (g_cons ⟨by decide, by decide⟩ (g_name (k := .d) sc_plan_told.nd rfl (by first | exact .inl rfl | exact .inr rfl) rfl rfl (by decide) (by decide)) (g_cons ⟨by decide, by decide⟩ (g_name (k := .d) sc_plan_told.nd rfl (by first | exact .inl rfl | exact .inr rfl) rfl rfl (by decide) (by decide)) g_nil)))) (b_one (s_ret rfl (j_if (k_val (j_var (k := .d) (by decide) rfl (pv 2))) (j_tup ⟨by decide, by decide⟩ (d_cons (j_gstr g.c_PLAN) (d_cons (j_var (k := .d) (by decide) rfl (pv 1)) d_nil))) (j_tup ⟨by decide, by decide⟩ (d_cons (j_gstr g.c_SPAN) (d_star (j_call F_span_of z rfl (.inl rfl) (.inl rfl) rfl (l_cons (j_var (k := .d) (by decide) rfl (pv 0)) (l_cons (j_const pe_int (.int _)) l_nil))) d_nil)))))))⟩
/-! is_whole_plan -/
abbrev st_is_whole_plan : Stmt := top 45
abbrev N_is_whole_plan : List Str := ["queue", "plan", "child", "come", "need", "due"]
def m_is_whole_plan : MS := (mRet (mOpL fAll (mCons (mLc (mEnum (mVar 0)) (gTuple 2 (gMore (gSet 2) (gMore (gTuple 3 (gMore (gSet 3) (gMore (gSet 4) (gMore (gSet 5) gNo)))) gNo))) mTrue (mOp2 (gd fEq) mBad (mVar 4))) mNil)))
def f_is_whole_plan : List PyData → Res PyData := runFn m_is_whole_plan 4
theorem sc_is_whole_plan : FnScope N_is_whole_plan ["queue", "plan"] (defScope st_is_whole_plan) := ⟨rfl, rfl, rfl, by decide +kernel, rfl, by decide +kernel, by decide +kernel⟩
theorem b_is_whole_plan {fa : Addr} {cdv : Value} (g : Gs P K mg)  : Body P w K mg base N_is_whole_plan "is_whole_plan" (defScope st_is_whole_plan) fa cdv (defBody st_is_whole_plan) 0 2 4 .p m_is_whole_plan := by
  intro A0 outer s H E A X z tk ps
  exact ⟨[], b_one (s_ret rfl (j_all z g.b_all (j_lc (own := [("child", 2), ("come", 3), ("need", 4), ("due", 5)]) z sc_is_whole_plan.nd (i_enum (fun _ => rfl) g.b_enumerate (j_var (k := .d) (by decide) rfl (pv 0))) (blkOk_by rfl) rfl (.inl rfl) (fun _ _ _ _ _ _ => g_tup z.blk.calm (g_cons ⟨by decide, by decide⟩ (g_name (k := .d) sc_is_whole_plan.nd rfl (by first | exact .inl rfl | exact .inr rfl) rfl rfl (by decide) (by decide)) (g_cons ⟨by decide, by decide⟩ (g_tup z.blk.calm (g_cons ⟨by decide, by decide⟩ (g_name (k := .d) sc_is_whole_plan.nd rfl (by first | exact .inl rfl | exact .inr rfl) rfl rfl (by decide) (by decide)) (g_cons ⟨by decide, by decide⟩ (g_name (k := .d) sc_is_whole_plan.nd rfl (by first | exact .inl rfl | exact .inr rfl) rfl rfl (by decide) (by decide)) (g_cons ⟨by decide, by decide⟩ (g_name (k := .d) sc_is_whole_plan.nd rfl (by first | exact .inl rfl | exact .inr rfl) rfl rfl (by decide) (by decide)) g_nil)))) g_nil))) (fun _ _ _ _ _ _ => t_none) (fun _ _ _ _ _ _ => j_eq z.blk (j_bad (fl := .p)) (j_var (k := .d) (by decide) rfl (pv 4))))))⟩
/-! shows_plan -/
abbrev st_shows_plan : Stmt := top 44
abbrev N_shows_plan : List Str := ["queue", "value"]
def m_shows_plan : MS := (mSeq (mDrop (mCall f_check_queue (mCons (mVar 0) mNil))) (mSeq (mIfS (mOrT (mNotT (mTest (mOp1 (fIsa .tuple) (mVar 1)) asB)) (mOrT (mTest (mOp2 (gd fNotIn) (mOpL fLen (mCons (mVar 1) mNil)) (mTup (mCons (mC (.int 2)) (mCons (mC (.int 3)) mNil)))) asB) (mNotT (mTest (mOp1 (fIsa .str) (mOp2 fIx (mVar 1) (mC (.int 0)))) asB)))) (mRet (mC (.bool false))) mNext) (mSeq (mIfS (mTest (mOp2 (gd fEq) (mOpL fLen (mCons (mVar 1) mNil)) (mC (.int 2))) asB) (mRet (mAndV (mOp2 (gd fEq) (mOp2 fIx (mVar 1) (mC (.int 0))) (mC (.str "plan"))) (mAndV (mCall f_is_plan_of (mCons (mVar 0) (mCons (mOp2 fIx (mVar 1) (mC (.int 1))) mNil))) (mCall f_is_whole_plan (mCons (mVar 0) (mCons (mOp2 fIx (mVar 1) (mC (.int 1))) mNil)))))) mNext) (mSeq (mIfS (mOrT (mTest (mOp2 (gd fNe) (mOp2 fIx (mVar 1) (mC (.int 0))) (mC (.str "span"))) asB) (mOrT (mNotT (mTest (mCall f_is_integer (mCons (mOp2 fIx (mVar 1) (mC (.int 1))) mNil)) asB)) (mOrT (mNotT (mTest (mCall f_is_integer (mCons (mOp2 fIx (mVar 1) (mC (.int 2))) mNil)) asB)) (mNotT (mTest (mOp2 (gd fLt) (mOp2 fIx (mVar 1) (mC (.int 1))) (mOp2 fIx (mVar 1) (mC (.int 2)))) asB))))) (mRet (mC (.bool false))) mNext) (mRet (mOp2 (gd fGt) (mCall f_need_in (mCons (mVar 0) (mCons (mOp2 fIx (mVar 1) (mC (.int 1))) (mCons (mOp2 fIx (mVar 1) (mC (.int 2))) (mCons (mC (.int 0)) mNil))))) (mOp2 fSub (mOp2 fIx (mVar 1) (mC (.int 2))) (mOp2 fIx (mVar 1) (mC (.int 1))))))))))
def f_shows_plan : List PyData → Res PyData := runFn m_shows_plan 0
theorem sc_shows_plan : FnScope N_shows_plan ["queue", "value"] (defScope st_shows_plan) := ⟨rfl, rfl, rfl, by decide +kernel, rfl, by decide +kernel, by decide +kernel⟩
theorem b_shows_plan {fa : Addr} {cdv : Value} (g : Gs P K mg) (F_check_queue : Fn P w K mg base 5 1 .p "check_queue" f_check_queue) (F_is_plan_of : Fn P w K mg base 4 2 .p "is_plan_of" f_is_plan_of) (F_is_whole_plan : Fn P w K mg base 1 2 .p "is_whole_plan" f_is_whole_plan) (F_is_integer : Fn P w K mg base 1 1 .p "is_integer" f_is_integer) (F_need_in : Fn P w K mg base 1 4 .p "need_in" f_need_in) : Body P w K mg base N_shows_plan "shows_plan" (defScope st_shows_plan) fa cdv (defBody st_shows_plan) 5 2 0 .p m_shows_plan := by
  intro A0 outer s H E A X z tk ps
  exact ⟨[], b_cons (s_drop (j_call F_check_queue z rfl (.inl rfl) (.inl rfl) rfl (l_cons (j_var (k := .d) (by decide) rfl (pv 0)) l_nil))) (b_cons (s_if (PW.pt (k_or (k_not (k_val (j_isa (t := .tuple) g.b_isinstance (j_var (k := .d) (by decide) rfl (pv 1)) (pe_bltn rfl g.b_tuple bt_tuple rfl)))) (k_or (k_notIn z (j_len z g.b_len (j_var (k := .d) (by decide) rfl (pv 1))) (j_tup ⟨by decide, by decide⟩ (d_cons (j_const pe_int (.int _)) (d_cons (j_gint g.c_THREE_serving) d_nil)))) (k_or1 (k_not (k_val (j_isa (t := .str) g.b_isinstance (j_ix (j_var (k := .d) (by decide) rfl (pv 1)) (j_const pe_int (.int _))) (pe_bltn rfl g.b_str bt_str rfl)))))))) (b_one (s_ret rfl (j_const pe_bl (.bl _)))) (b_nil)) (b_cons (s_if (k_eq z (j_len z g.b_len (j_var (k := .d) (by decide) rfl (pv 1))) (j_const pe_int (.int _))) (b_one (s_ret rfl (j_and (fl := .p) (j_eq z (j_ix (j_var (k := .d) (by decide) rfl (pv 1)) (j_const pe_int (.int _))) (j_gstr g.c_PLAN)) (j_and (fl := .p) (j_call F_is_plan_of z rfl (.inl rfl) (.inl rfl) rfl (l_cons (j_var (k := .d) (by decide) rfl (pv 0)) (l_cons (j_ix (j_var (k := .d) (by decide) rfl (pv 1)) (j_const pe_int (.int _))) l_nil))) (j_one (j_call F_is_whole_plan z rfl (.inl rfl) (.inl rfl) rfl (l_cons (j_var (k := .d) (by decide) rfl (pv 0)) (l_cons (j_ix (j_var (k := .d) (by decide) rfl (pv 1)) (j_const pe_int (.int _))) l_nil)))))))) (b_nil)) (b_cons (s_if (PW.pt (k_or (k_ne z (j_ix (j_var (k := .d) (by decide) rfl (pv 1)) (j_const pe_int (.int _))) (j_gstr g.c_SPAN)) (k_or (k_not (k_val (j_call F_is_integer z rfl (.inl rfl) (.inl rfl) rfl (l_cons (j_ix (j_var (k := .d) (by decide) rfl (pv 1)) (j_const pe_int (.int _))) l_nil)))) (k_or (k_not (k_val (j_call F_is_integer z rfl (.inl rfl) (.inl rfl) rfl (l_cons (j_ix (j_var (k := .d) (by decide) rfl (pv 1)) (j_const pe_int (.int _))) l_nil)))) (k_or1 (k_not (k_lt z (j_ix (j_var (k := .d) (by decide) rfl (pv 1)) (j_const pe_int (.int _))) (j_ix (j_var (k := .d) (by decide) rfl (pv 1)) (j_const pe_int (.int _)))))))))) (b_one (s_ret rfl (j_const pe_bl (.bl _)))) (b_nil)) (b_one (s_ret rfl (j_gt z (j_call F_need_in z rfl (.inl rfl) (.inl rfl) rfl (l_cons (j_var (k := .d) (by decide) rfl (pv 0)) (l_cons (j_ix (j_var (k := .d) (by decide) rfl (pv 1)) (j_const pe_int (.int _))) (l_cons (j_ix (j_var (k := .d) (by decide) rfl (pv 1)) (j_const pe_int (.int _))) (l_cons (j_const pe_int (.int _)) l_nil))))) (j_sub (j_ix (j_var (k := .d) (by decide) rfl (pv 1)) (j_const pe_int (.int _))) (j_ix (j_var (k := .d) (by decide) rfl (pv 1)) (j_const pe_int (.int _))))))))))⟩
/-! lots_of -/
abbrev st_lots_of : Stmt := top 46
abbrev N_lots_of : List Str := ["queue", "found", "child", "lot"]
def m_lots_of : MS := (mSeq (mSet 1 (mLst (mCons (mTup mNil) mNil))) (mSeq (mFor (mRange (mCons (mOpL fLen (mCons (mVar 0) mNil)) mNil)) (gSet 2) (mSeq (mSet 1 (mOp2 fAddL (mVar 1) (mLc (mItems (mVar 1)) (gSet 3) mTrue (mTup (mStar (mVar 3) (mCons (mVar 2) mNil)))))) mNext)) (mRet (mOpL (fSortLen true) (mCons (mVar 1) mNil)))))
def f_lots_of : List PyData → Res PyData := runFnF m_lots_of 3
theorem sc_lots_of : FnScope N_lots_of ["queue"] (defScope st_lots_of) := ⟨rfl, rfl, rfl, by decide +kernel, rfl, by decide +kernel, by decide +kernel⟩
theorem b_lots_of {fa : Addr} {cdv : Value} (g : Gs P K mg)  : Body P w K mg base N_lots_of "lots_of" (defScope st_lots_of) fa cdv (defBody st_lots_of) 0 1 3 .f m_lots_of := by
  intro A0 outer s H E A X z tk ps
  exact ⟨[], b_cons (s_set (k := .o) sc_lots_of.nd rfl (by first | exact .inl rfl | exact .inr rfl) rfl rfl (fun _ => j_lst (d_cons (j_tup ⟨by decide, by decide⟩ d_nil) d_nil))) (b_cons (s_for (vs := [2]) ps z.calm (i_range1 g.b_range (j_len z g.b_len (j_var (k := .d) (by decide) rfl (pv 0)))) (g_name (k := .d) sc_lots_of.nd rfl (by first | exact .inl rfl | exact .inr rfl) rfl rfl (by decide) (by decide)) (b_cons (s_set (k := .o) sc_lots_of.nd rfl (by first | exact .inl rfl | exact .inr rfl) rfl rfl (fun _ => j_addL rfl rfl (j_var (k := .o) (by decide) rfl (pv 1)) (j_lc (own := [("lot", 3)]) z sc_lots_of.nd (i_seq (fun _ => by contradiction) (j_var (k := .o) (by decide) rfl (pv 1))) (blkOk_by rfl) rfl (.inl rfl) (fun _ _ _ _ _ _ => g_name (k := .d) sc_lots_of.nd rfl (by first | exact .inl rfl | exact .inr rfl) rfl rfl (by decide) (by decide)) (fun _ _ _ _ _ _ => t_none) (fun _ _ _ _ _ _ => j_tup ⟨by decide, by decide⟩ (d_star (j_var (k := .d) (by decide) rfl (pv 3)) (d_cons (j_var (k := .d) (by decide) rfl (pv 2)) d_nil)))))) (b_nil' (Γ' := [.d, .o, .n, .n]) rfl))) (b_one (s_ret rfl (j_sortLen z g.b_sorted g.b_len (j_var (k := .o) (by decide) rfl (pv 1)) rfl))))⟩
/-! picked -/
abbrev st_picked : Stmt := top 47
abbrev N_picked : List Str := ["queue", "lot", "child"]
def m_picked : MS := (mRet (mOpL fTuple (mCons (mLc (mItems (mVar 1)) (gSet 2) mTrue (mOp2 fIx (mVar 0) (mVar 2))) mNil)))
def f_picked : List PyData → Res PyData := runFn m_picked 1
theorem sc_picked : FnScope N_picked ["queue", "lot"] (defScope st_picked) := ⟨rfl, rfl, rfl, by decide +kernel, rfl, by decide +kernel, by decide +kernel⟩
theorem b_picked {fa : Addr} {cdv : Value} (g : Gs P K mg)  : Body P w K mg base N_picked "picked" (defScope st_picked) fa cdv (defBody st_picked) 0 2 1 .p m_picked := by
  intro A0 outer s H E A X z tk ps
  exact ⟨[], b_one (s_ret rfl (j_tuple g.b_tuple (j_lc (own := [("child", 2)]) z sc_picked.nd (i_seq (fun _ => rfl) (j_var (k := .d) (by decide) rfl (pv 1))) (blkOk_by rfl) rfl (.inl rfl) (fun _ _ _ _ _ _ => g_name (k := .d) sc_picked.nd rfl (by first | exact .inl rfl | exact .inr rfl) rfl rfl (by decide) (by decide)) (fun _ _ _ _ _ _ => t_none) (fun _ _ _ _ _ _ => j_ix (j_var (k := .d) (by decide) rfl (pv 0)) (j_var (k := .d) (by decide) rfl (pv 2))))))⟩
/-! most_lot -/
abbrev st_most_lot : Stmt := top 48
abbrev N_most_lot : List Str := ["queue", "lot"]
def m_most_lot : MS := (mRet (mOp2 fIx (mLc (mItems (mCall f_lots_of (mCons (mVar 0) mNil))) (gSet 1) (mTest (mCall f_can_plan (mCons (mCall f_picked (mCons (mVar 0) (mCons (mVar 1) mNil))) mNil)) asB) (mVar 1)) (mC (.int 0))))
def f_most_lot : List PyData → Res PyData := runFn m_most_lot 1
theorem sc_most_lot : FnScope N_most_lot ["queue"] (defScope st_most_lot) := ⟨rfl, rfl, rfl, by decide +kernel, rfl, by decide +kernel, by decide +kernel⟩
theorem b_most_lot {fa : Addr} {cdv : Value} (g : Gs P K mg) (F_lots_of : Fn P w K mg base 1 1 .f "lots_of" f_lots_of) (F_picked : Fn P w K mg base 1 2 .p "picked" f_picked) (F_can_plan : Fn P w K mg base 3 1 .p "can_plan" f_can_plan) : Body P w K mg base N_most_lot "most_lot" (defScope st_most_lot) fa cdv (defBody st_most_lot) 3 1 1 .p m_most_lot := by
  intro A0 outer s H E A X z tk ps
  exact ⟨[], b_one (s_ret rfl (j_ix (j_lc (own := [("lot", 1)]) z sc_most_lot.nd (i_seq (fun _ => rfl) (j_call F_lots_of z rfl (.inl rfl) (.inr rfl) rfl (l_cons (j_var (k := .d) (by decide) rfl (pv 0)) l_nil))) (blkOk_by rfl) rfl (.inl rfl) (fun _ _ _ _ _ _ => g_name (k := .d) sc_most_lot.nd rfl (by first | exact .inl rfl | exact .inr rfl) rfl rfl (by decide) (by decide)) (fun _ _ _ _ _ _ => t_one (k_val (j_call F_can_plan z.blk rfl (.inl rfl) (.inl rfl) rfl (l_cons (j_call F_picked z.blk rfl (.inl rfl) (.inl rfl) rfl (l_cons (j_var (k := .d) (by decide) rfl (pv 0)) (l_cons (j_var (k := .d) (by decide) rfl (pv 1)) l_nil))) l_nil)))) (fun _ _ _ _ _ _ => j_var (k := .d) (by decide) rfl (pv 1))) (j_const pe_int (.int _))))⟩
/-! most_planned -/
abbrev st_most_planned : Stmt := top 49
abbrev N_most_planned : List Str := ["queue", "lot"]
def m_most_planned : MS := (mSeq (mDrop (mCall f_check_queue (mCons (mVar 0) mNil))) (mSeq (mSet 1 (mCall f_most_lot (mCons (mVar 0) mNil))) (mRet (mTup (mCons (mOpL fLen (mCons (mVar 1) mNil)) (mCons (mVar 1) mNil))))))
def f_most_planned : List PyData → Res PyData := runFn m_most_planned 1
theorem sc_most_planned : FnScope N_most_planned ["queue"] (defScope st_most_planned) := ⟨rfl, rfl, rfl, by decide +kernel, rfl, by decide +kernel, by decide +kernel⟩
theorem b_most_planned {fa : Addr} {cdv : Value} (g : Gs P K mg) (F_check_queue : Fn P w K mg base 5 1 .p "check_queue" f_check_queue) (F_most_lot : Fn P w K mg base 4 1 .p "most_lot" f_most_lot) : Body P w K mg base N_most_planned "most_planned" (defScope st_most_planned) fa cdv (defBody st_most_planned) 5 1 1 .p m_most_planned := by
  intro A0 outer s H E A X z tk ps
  exact ⟨[], b_cons (s_drop (j_call F_check_queue z rfl (.inl rfl) (.inl rfl) rfl (l_cons (j_var (k := .d) (by decide) rfl (pv 0)) l_nil))) (b_cons (s_set (k := .d) sc_most_planned.nd rfl (by first | exact .inl rfl | exact .inr rfl) rfl rfl (fun _ => j_call F_most_lot z rfl (.inl rfl) (.inl rfl) rfl (l_cons (j_var (k := .d) (by decide) rfl (pv 0)) l_nil))) (b_one (s_ret rfl (j_tup ⟨by decide, by decide⟩ (d_cons (j_len z g.b_len (j_var (k := .d) (by decide) rfl (pv 1))) (d_cons (j_var (k := .d) (by decide) rfl (pv 1)) d_nil))))))⟩
/-! shows_most_planned -/
abbrev st_shows_most_planned : Stmt := top 50
abbrev N_shows_most_planned : List Str := ["queue", "value"]
def m_shows_most_planned : MS := (mSeq (mDrop (mCall f_check_queue (mCons (mVar 0) mNil))) (mSeq (mIfS (mOrT (mNotT (mTest (mOp1 (fIsa .tuple) (mVar 1)) asB)) (mOrT (mTest (mOp2 (gd fNe) (mOpL fLen (mCons (mVar 1) mNil)) (mC (.int 2))) asB) (mNotT (mTest (mCall f_is_between (mCons (mOp2 fIx (mVar 1) (mC (.int 0))) (mCons (mC (.int 0)) (mCons (mOpL fLen (mCons (mVar 0) mNil)) mNil)))) asB)))) (mRet (mC (.bool false))) mNext) (mSeq (mIfS (mOrT (mNotT (mTest (mCall f_are_between (mCons (mOp2 fIx (mVar 1) (mC (.int 1))) (mCons (mC (.int 0)) (mCons (mOp2 fSub (mOpL fLen (mCons (mVar 0) mNil)) (mC (.int 1))) mNil)))) asB)) (mOrT (mNotT (mTest (mCall f_is_ascending (mCons (mOp2 fIx (mVar 1) (mC (.int 1))) mNil)) asB)) (mTest (mOp2 (gd fNe) (mOpL fLen (mCons (mOp2 fIx (mVar 1) (mC (.int 1))) mNil)) (mOp2 fIx (mVar 1) (mC (.int 0)))) asB))) (mRet (mC (.bool false))) mNext) (mRet (mAndV (mCall f_can_plan (mCons (mCall f_picked (mCons (mVar 0) (mCons (mOp2 fIx (mVar 1) (mC (.int 1))) mNil))) mNil)) (mOp2 (gd fEq) (mOp2 fIx (mVar 1) (mC (.int 0))) (mOpL fLen (mCons (mCall f_most_lot (mCons (mVar 0) mNil)) mNil))))))))
def f_shows_most_planned : List PyData → Res PyData := runFn m_shows_most_planned 0
theorem sc_shows_most_planned : FnScope N_shows_most_planned ["queue", "value"] (defScope st_shows_most_planned) := ⟨rfl, rfl, rfl, by decide +kernel, rfl, by decide +kernel, by decide +kernel⟩
theorem b_shows_most_planned {fa : Addr} {cdv : Value} (g : Gs P K mg) (F_check_queue : Fn P w K mg base 5 1 .p "check_queue" f_check_queue) (F_is_between : Fn P w K mg base 2 3 .p "is_between" f_is_between) (F_are_between : Fn P w K mg base 3 3 .p "are_between" f_are_between) (F_is_ascending : Fn P w K mg base 1 1 .p "is_ascending" f_is_ascending) (F_picked : Fn P w K mg base 1 2 .p "picked" f_picked) (F_can_plan : Fn P w K mg base 3 1 .p "can_plan" f_can_plan) (F_most_lot : Fn P w K mg base 4 1 .p "most_lot" f_most_lot) : Body P w K mg base N_shows_most_planned "shows_most_planned" (defScope st_shows_most_planned) fa cdv (defBody st_shows_most_planned) 5 2 0 .p m_shows_most_planned := by
  intro A0 outer s H E A X z tk ps
  exact ⟨[], b_cons (s_drop (j_call F_check_queue z rfl (.inl rfl) (.inl rfl) rfl (l_cons (j_var (k := .d) (by decide) rfl (pv 0)) l_nil))) (b_cons (s_if (PW.pt (k_or (k_not (k_val (j_isa (t := .tuple) g.b_isinstance (j_var (k := .d) (by decide) rfl (pv 1)) (pe_bltn rfl g.b_tuple bt_tuple rfl)))) (k_or (k_ne z (j_len z g.b_len (j_var (k := .d) (by decide) rfl (pv 1))) (j_const pe_int (.int _))) (k_or1 (k_not (k_val (j_call F_is_between z rfl (.inl rfl) (.inl rfl) rfl (l_cons (j_ix (j_var (k := .d) (by decide) rfl (pv 1)) (j_const pe_int (.int _))) (l_cons (j_const pe_int (.int _)) (l_cons (j_len z g.b_len (j_var (k := .d) (by decide) rfl (pv 0))) l_nil)))))))))) (b_one (s_ret rfl (j_const pe_bl (.bl _)))) (b_nil)) (b_cons (s_if (PW.pt (k_or (k_not (k_val (j_call F_are_between z rfl (.inl rfl) (.inl rfl) rfl (l_cons (j_ix (j_var (k := .d) (by decide) rfl (pv 1)) (j_const pe_int (.int _))) (l_cons (j_const pe_int (.int _)) (l_cons (j_sub (j_len z g.b_len (j_var (k := .d) (by decide) rfl (pv 0))) (j_const pe_int (.int _))) l_nil)))))) (k_or (k_not (k_val (j_call F_is_ascending z rfl (.inl rfl) (.inl rfl) rfl (l_cons (j_ix (j_var (k := .d) (by decide) rfl (pv 1)) (j_const pe_int (.int _))) l_nil)))) (k_or1 (k_ne z (j_len z g.b_len (j_ix (j_var (k := .d) (by decide) rfl (pv 1)) (j_const pe_int (.int _)))) (j_ix (j_var (k := .d) (by decide) rfl (pv 1)) (j_const pe_int (.int _)))))))) (b_one (s_ret rfl (j_const pe_bl (.bl _)))) (b_nil)) (b_one (s_ret rfl (j_and (fl := .p) (j_call F_can_plan z rfl (.inl rfl) (.inl rfl) rfl (l_cons (j_call F_picked z rfl (.inl rfl) (.inl rfl) rfl (l_cons (j_var (k := .d) (by decide) rfl (pv 0)) (l_cons (j_ix (j_var (k := .d) (by decide) rfl (pv 1)) (j_const pe_int (.int _))) l_nil))) l_nil)) (j_one (j_eq z (j_ix (j_var (k := .d) (by decide) rfl (pv 1)) (j_const pe_int (.int _))) (j_len z g.b_len (j_call F_most_lot z rfl (.inl rfl) (.inl rfl) rfl (l_cons (j_var (k := .d) (by decide) rfl (pv 0)) l_nil))))))))))⟩
/-! least_hurry -/
abbrev st_least_hurry : Stmt := top 51
abbrev N_least_hurry : List Str := ["queue", "fine", "more"]
def m_least_hurry : MS := (mSeq (mDrop (mCall f_check_queue (mCons (mVar 0) mNil))) (mSeq (mSet 1 (mLc (mRange (mCons (mOp2 fAdd (mC (.int 20)) (mOp2 fMulT (mC (.int 6)) (mOp2 fAdd (mOpL fLen (mCons (mVar 0) mNil)) (mC (.int 1))))) mNil)) (gSet 2) (mTest (mOp1 fIsN (mCall f_span_of (mCons (mVar 0) (mCons (mVar 2) mNil)))) asB) (mVar 2))) (mRet (mOp2 fIx (mVar 1) (mC (.int 0))))))
def f_least_hurry : List PyData → Res PyData := runFn m_least_hurry 2
theorem sc_least_hurry : FnScope N_least_hurry ["queue"] (defScope st_least_hurry) := ⟨rfl, rfl, rfl, by decide +kernel, rfl, by decide +kernel, by decide +kernel⟩
theorem b_least_hurry {fa : Addr} {cdv : Value} (g : Gs P K mg) (F_check_queue : Fn P w K mg base 5 1 .p "check_queue" f_check_queue) (F_span_of : Fn P w K mg base 2 2 .p "span_of" f_span_of) : Body P w K mg base N_least_hurry "least_hurry" (defScope st_least_hurry) fa cdv (defBody st_least_hurry) 5 1 2 .p m_least_hurry := by
  intro A0 outer s H E A X z tk ps
  exact ⟨[], b_cons (s_drop (j_call F_check_queue z rfl (.inl rfl) (.inl rfl) rfl (l_cons (j_var (k := .d) (by decide) rfl (pv 0)) l_nil))) (b_cons (s_setLc (own := [("more", 2)]) (kd := .o) z sc_least_hurry.nd rfl rfl rfl rfl (sw_true rfl rfl rfl rfl) (fun _ => i_range1 g.b_range (j_add (j_gint g.c_MOST_COME) (j_mul (j_gint g.c_MOST_NEED) (j_add (j_len z g.b_len (j_var (k := .d) (by decide) rfl (pv 0))) (j_const pe_int (.int _)))))) (blkOk_by rfl) rfl (.inl rfl) (fun _ _ _ _ _ _ _ => g_name (k := .d) sc_least_hurry.nd rfl (by first | exact .inl rfl | exact .inr rfl) rfl rfl (by decide) (by decide)) (fun _ _ _ _ _ _ _ => t_one (k_isN (j_call F_span_of z.blk rfl (.inl rfl) (.inl rfl) rfl (l_cons (j_var (k := .d) (by decide) rfl (pv 0)) (l_cons (j_var (k := .d) (by decide) rfl (pv 2)) l_nil))))) (fun _ _ _ _ _ _ _ => j_var (k := .d) (by decide) rfl (pv 2))) (b_one (s_ret rfl (j_ix (j_var (k := .o) (by decide) rfl (pv 1)) (j_const pe_int (.int _))))))⟩
/-! rows_of -/
abbrev st_rows_of : Stmt := top 53
abbrev N_rows_of : List Str := ["many", "found", "lap", "longer", "row", "child"]
def m_rows_of : MS := (mSeq (mSet 1 (mLst (mCons (mTup mNil) mNil))) (mSeq (mFor (mRange (mCons (mVar 0) mNil)) (gSet 2) (mSeq (mSet 3 (mLst mNil)) (mSeq (mFor (mItems (mVar 1)) (gSet 4) (mSeq (mExt 3 (mLc (mRange (mCons (mVar 0) mNil)) (gSet 5) (mTest (mOp2 (gd fNotIn) (mVar 5) (mVar 4)) asB) (mTup (mStar (mVar 4) (mCons (mVar 5) mNil))))) mNext)) (mSeq (mSet 1 (mVar 3)) mNext)))) (mRet (mVar 1))))
def f_rows_of : List PyData → Res PyData := runFn m_rows_of 5
theorem sc_rows_of : FnScope N_rows_of ["many"] (defScope st_rows_of) := ⟨rfl, rfl, rfl, by decide +kernel, rfl, by decide +kernel, by decide +kernel⟩
theorem b_rows_of {fa : Addr} {cdv : Value} (g : Gs P K mg)  : Body P w K mg base N_rows_of "rows_of" (defScope st_rows_of) fa cdv (defBody st_rows_of) 0 1 5 .p m_rows_of := by
  intro A0 outer s H E A X z tk ps
  exact ⟨[], b_cons (s_set (k := .o) sc_rows_of.nd rfl (by first | exact .inl rfl | exact .inr rfl) rfl rfl (fun _ => j_lst (d_cons (j_tup ⟨by decide, by decide⟩ d_nil) d_nil))) (b_cons (s_weak (Γ2 := [.d, .d, .n, .n, .n, .n]) rfl (s_for (vs := [2]) ps z.calm (i_range1 g.b_range (j_var (k := .d) (by decide) rfl (pv 0))) (g_name (k := .d) sc_rows_of.nd rfl (by first | exact .inl rfl | exact .inr rfl) rfl rfl (by decide) (by decide)) (b_cons (s_set (k := .o) sc_rows_of.nd rfl (by first | exact .inl rfl | exact .inr rfl) rfl rfl (fun _ => j_lst d_nil)) (b_cons (s_for (vs := [4]) ps z.calm (i_seq (fun _ => rfl) (j_var (k := .d) (by decide) rfl (pv 1))) (g_name (k := .d) sc_rows_of.nd rfl (by first | exact .inl rfl | exact .inr rfl) rfl rfl (by decide) (by decide)) (b_cons (s_ext rfl (pv 3) (j_lc (own := [("child", 5)]) z sc_rows_of.nd (i_range1 g.b_range (j_var (k := .d) (by decide) rfl (pv 0))) (blkOk_by rfl) rfl (.inl rfl) (fun _ _ _ _ _ _ => g_name (k := .d) sc_rows_of.nd rfl (by first | exact .inl rfl | exact .inr rfl) rfl rfl (by decide) (by decide)) (fun _ _ _ _ _ _ => t_one (k_notIn z.blk (j_var (k := .d) (by decide) rfl (pv 5)) (j_var (k := .d) (by decide) rfl (pv 4)))) (fun _ _ _ _ _ _ => j_tup ⟨by decide, by decide⟩ (d_star (j_var (k := .d) (by decide) rfl (pv 4)) (d_cons (j_var (k := .d) (by decide) rfl (pv 5)) d_nil))))) (b_nil' (Γ' := [.d, .d, .d, .o, .n, .n]) rfl))) (b_cons (s_weak (Γ2 := [.d, .d, .d, .d, .n, .n]) rfl (s_set (k := .d) sc_rows_of.nd rfl (by first | exact .inl rfl | exact .inr rfl) rfl rfl (fun _ => j_var (k := .d) (by decide) rfl (pv 3)))) (b_nil' (Γ' := [.d, .d, .n, .n, .n, .n]) rfl)))))) (b_one (s_ret rfl (j_var (k := .d) (by decide) rfl (pv 1)))))⟩
/-! lateness -/
abbrev st_lateness : Stmt := top 54
abbrev N_lateness : List Str := ["queue", "row", "ends", "child", "end"]
def m_lateness : MS := (mRet (mOpL fMax (mCons (mLst (mCons (mC (.int 0)) (mStar (mLc (mZip (mVar 1) (mVar 2)) (gTuple 2 (gMore (gSet 3) (gMore (gSet 4) gNo))) mTrue (mOp2 fSub (mVar 4) (mOp2 fIx (mOp2 fIx (mVar 0) (mVar 3)) (mOp1 fNeg (mC (.int 1)))))) mNil))) mNil)))
def f_lateness : List PyData → Res PyData := runFn m_lateness 2
theorem sc_lateness : FnScope N_lateness ["queue", "row", "ends"] (defScope st_lateness) := ⟨rfl, rfl, rfl, by decide +kernel, rfl, by decide +kernel, by decide +kernel⟩
theorem b_lateness {fa : Addr} {cdv : Value} (g : Gs P K mg)  : Body P w K mg base N_lateness "lateness" (defScope st_lateness) fa cdv (defBody st_lateness) 0 3 2 .p m_lateness := by
  intro A0 outer s H E A X z tk ps
  exact ⟨[], b_one (s_ret rfl (j_max1 z g.b_max (j_lst (d_cons (j_const pe_int (.int _)) (d_star (j_lc (own := [("child", 3), ("end", 4)]) z sc_lateness.nd (i_zip (fun _ => rfl) (fun _ => rfl) g.b_zip (j_var (k := .d) (by decide) rfl (pv 1)) (j_var (k := .d) (by decide) rfl (pv 2))) (blkOk_by rfl) rfl (.inl rfl) (fun _ _ _ _ _ _ => g_tup z.blk.calm (g_cons ⟨by decide, by decide⟩ (g_name (k := .d) sc_lateness.nd rfl (by first | exact .inl rfl | exact .inr rfl) rfl rfl (by decide) (by decide)) (g_cons ⟨by decide, by decide⟩ (g_name (k := .d) sc_lateness.nd rfl (by first | exact .inl rfl | exact .inr rfl) rfl rfl (by decide) (by decide)) g_nil))) (fun _ _ _ _ _ _ => t_none) (fun _ _ _ _ _ _ => j_sub (j_var (k := .d) (by decide) rfl (pv 4)) (j_ix (j_ix (j_var (k := .d) (by decide) rfl (pv 0)) (j_var (k := .d) (by decide) rfl (pv 3))) (j_neg (j_const pe_int (.int _)))))) d_nil)))))⟩
/-! waits_in -/
abbrev st_waits_in : Stmt := top 55
abbrev N_waits_in : List Str := ["queue", "row", "ends", "child", "end"]
def m_waits_in : MS := (mRet (mOpL fSum (mCons (mLc (mZip (mVar 1) (mVar 2)) (gTuple 2 (gMore (gSet 3) (gMore (gSet 4) gNo))) mTrue (mOp2 fSub (mVar 4) (mOp2 fIx (mOp2 fIx (mVar 0) (mVar 3)) (mC (.int 0))))) mNil)))
def f_waits_in : List PyData → Res PyData := runFn m_waits_in 2
theorem sc_waits_in : FnScope N_waits_in ["queue", "row", "ends"] (defScope st_waits_in) := ⟨rfl, rfl, rfl, by decide +kernel, rfl, by decide +kernel, by decide +kernel⟩
theorem b_waits_in {fa : Addr} {cdv : Value} (g : Gs P K mg)  : Body P w K mg base N_waits_in "waits_in" (defScope st_waits_in) fa cdv (defBody st_waits_in) 0 3 2 .p m_waits_in := by
  intro A0 outer s H E A X z tk ps
  exact ⟨[], b_one (s_ret rfl (j_sum z g.b_sum (j_lc (own := [("child", 3), ("end", 4)]) z sc_waits_in.nd (i_zip (fun _ => rfl) (fun _ => rfl) g.b_zip (j_var (k := .d) (by decide) rfl (pv 1)) (j_var (k := .d) (by decide) rfl (pv 2))) (blkOk_by rfl) rfl (.inl rfl) (fun _ _ _ _ _ _ => g_tup z.blk.calm (g_cons ⟨by decide, by decide⟩ (g_name (k := .d) sc_waits_in.nd rfl (by first | exact .inl rfl | exact .inr rfl) rfl rfl (by decide) (by decide)) (g_cons ⟨by decide, by decide⟩ (g_name (k := .d) sc_waits_in.nd rfl (by first | exact .inl rfl | exact .inr rfl) rfl rfl (by decide) (by decide)) g_nil))) (fun _ _ _ _ _ _ => t_none) (fun _ _ _ _ _ _ => j_sub (j_var (k := .d) (by decide) rfl (pv 4)) (j_ix (j_ix (j_var (k := .d) (by decide) rfl (pv 0)) (j_var (k := .d) (by decide) rfl (pv 3))) (j_const pe_int (.int _)))))))⟩
/-! lambda 0 -/
def m_lam0 : ME := (mOpL fLen (mCons (mCall f_late_by (mCons (mVar 2) (mCons (mVar 0) mNil))) mNil))
theorem ls_lam0 : LamS tx_0 := lamS_by (by decide +kernel)
theorem b_lam0 (g : Gs P K mg) (F_late_by : Fn P w K mg base 2 2 .f "late_by" f_late_by) : LamBody P w K mg base tx_0 2 m_lam0 := by
  intro A0 outer s H E f c cl A hcl X z
  exact ⟨.p, rfl, j_len z g.b_len (j_call F_late_by z rfl (.inl rfl) (.inr rfl) rfl (l_cons (j_var (k := .d) (by decide) rfl (pv 2)) (l_cons (j_var (k := .d) (by decide) rfl (pv 0)) l_nil)))⟩
/-! lambda 2 -/
def m_lam2 : ME := (mCall f_lateness (mCons (mVar 2) (mCons (mVar 0) (mCons (mVar 1) mNil))))
theorem ls_lam2 : LamS tx_2 := lamS_by (by decide +kernel)
theorem b_lam2 (g : Gs P K mg) (F_lateness : Fn P w K mg base 1 3 .p "lateness" f_lateness) : LamBody P w K mg base tx_2 1 m_lam2 := by
  intro A0 outer s H E f c cl A hcl X z
  exact ⟨.p, rfl, j_call F_lateness z rfl (.inl rfl) (.inl rfl) rfl (l_cons (j_var (k := .d) (by decide) rfl (pv 2)) (l_cons (j_var (k := .d) (by decide) rfl (pv 0)) (l_cons (j_var (k := .d) (by decide) rfl (pv 1)) l_nil)))⟩
/-! lambda 4 -/
def m_lam4 : ME := (mCall f_waits_in (mCons (mVar 2) (mCons (mVar 0) (mCons (mVar 1) mNil))))
theorem ls_lam4 : LamS tx_4 := lamS_by (by decide +kernel)
theorem b_lam4 (g : Gs P K mg) (F_waits_in : Fn P w K mg base 1 3 .p "waits_in" f_waits_in) : LamBody P w K mg base tx_4 1 m_lam4 := by
  intro A0 outer s H E f c cl A hcl X z
  exact ⟨.p, rfl, j_call F_waits_in z rfl (.inl rfl) (.inl rfl) rfl (l_cons (j_var (k := .d) (by decide) rfl (pv 2)) (l_cons (j_var (k := .d) (by decide) rfl (pv 0)) (l_cons (j_var (k := .d) (by decide) rfl (pv 1)) l_nil)))⟩
/-! the lambdas that are handed to one def: best -/
def g_best : Nat → List PyData → List PyData → Res PyData
  | 0 => gLam m_lam0
  | 1 => fun _ _ => .bad
  | 2 => gLam m_lam2
  | 3 => fun _ _ => .bad
  | 4 => gLam m_lam4
  | _ => fun _ _ => .bad
theorem L_best (g : Gs P K mg) (F_late_by : Fn P w K mg base 2 2 .f "late_by" f_late_by) (F_lateness : Fn P w K mg base 1 3 .p "lateness" f_lateness) (F_waits_in : Fn P w K mg base 1 3 .p "waits_in" f_waits_in) : LamAll P w K mg base 3 2 g_best
  | 0 => (lam_fn (t := tx_0) rfl ls_lam0 rfl (fun cl pm cv ctv us hl => match us, hl with | [_, _], _ => rfl) (b_lam0 g F_late_by)).mono rfl
  | 1 => lamFn_bad
  | 2 => (lam_fn (t := tx_2) rfl ls_lam2 rfl (fun cl pm cv ctv us hl => match us, hl with | [_, _], _ => rfl) (b_lam2 g F_lateness)).mono rfl
  | 3 => lamFn_bad
  | 4 => (lam_fn (t := tx_4) rfl ls_lam4 rfl (fun cl pm cv ctv us hl => match us, hl with | [_, _], _ => rfl) (b_lam4 g F_waits_in)).mono rfl
  | _ + 5 => lamFn_bad
/-! best_rows -/
abbrev st_best_rows : Stmt := top 52
abbrev N_best_rows : List Str := ["queue", "measure", "best", "row", "number"]
def m_best_rows : MS := (mSeq (mSet 2 (mC .none)) (mSeq (mFor (mItems (mCall f_rows_of (mCons (mOpL fLen (mCons (mVar 0) mNil)) mNil))) (gSet 3) (mSeq (mSet 4 (mCallV g_best 1 (mCons (mVar 3) (mCons (mCall f_ends_by (mCons (mVar 0) (mCons (mVar 3) mNil))) mNil)))) (mSeq (mIfS (mOrT (mTest (mOp1 fIsN (mVar 2)) asB) (mTest (mOp2 (gd fLt) (mVar 4) (mOp2 fIx (mVar 2) (mC (.int 0)))) asB)) (mSeq (mSet 2 (mTup (mCons (mVar 4) (mCons (mVar 3) mNil)))) mNext) mNext) mNext))) (mRet (mVar 2))))
def f_best_rows : List PyData → Res PyData := runFn m_best_rows 3
theorem sc_best_rows : FnScope N_best_rows ["queue", "measure"] (defScope st_best_rows) := ⟨rfl, rfl, rfl, by decide +kernel, rfl, by decide +kernel, by decide +kernel⟩
theorem b_best_rows {fa : Addr} {cdv : Value} (g : Gs P K mg) (L_best : LamAll P w K mg base 3 2 g_best) (F_rows_of : Fn P w K mg base 1 1 .p "rows_of" f_rows_of) (F_ends_by : Fn P w K mg base 1 2 .f "ends_by" f_ends_by) : Body P w K mg base N_best_rows "best_rows" (defScope st_best_rows) fa cdv (defBody st_best_rows) 3 2 3 .p m_best_rows := by
  intro A0 outer s H E A X z tk ps
  exact ⟨[], b_cons (s_set (k := .d) sc_best_rows.nd rfl (by first | exact .inl rfl | exact .inr rfl) rfl rfl (fun _ => j_const pe_non .non)) (b_cons (s_for (vs := [3]) ps z.calm (i_seq (fun _ => rfl) (j_call F_rows_of z rfl (.inl rfl) (.inl rfl) rfl (l_cons (j_len z g.b_len (j_var (k := .d) (by decide) rfl (pv 0))) l_nil))) (g_name (k := .d) sc_best_rows.nd rfl (by first | exact .inl rfl | exact .inr rfl) rfl rfl (by decide) (by decide)) (b_cons (s_set (k := .d) sc_best_rows.nd rfl (by first | exact .inl rfl | exact .inr rfl) rfl rfl (fun _ => j_callV L_best z rfl rfl (pv 1) rfl rfl (l_cons (j_var (k := .d) (by decide) rfl (pv 3)) (l_cons (j_call F_ends_by z rfl (.inl rfl) (.inr rfl) rfl (l_cons (j_var (k := .d) (by decide) rfl (pv 0)) (l_cons (j_var (k := .d) (by decide) rfl (pv 3)) l_nil))) l_nil)))) (b_cons (s_if (PW.pt (k_or (k_isN (j_var (k := .d) (by decide) rfl (pv 2))) (k_or1 (k_lt z (j_var (k := .d) (by decide) rfl (pv 4)) (j_ix (j_var (k := .d) (by decide) rfl (pv 2)) (j_const pe_int (.int _))))))) (b_cons (s_set (k := .d) sc_best_rows.nd rfl (by first | exact .inl rfl | exact .inr rfl) rfl rfl (fun _ => j_tup ⟨by decide, by decide⟩ (d_cons (j_var (k := .d) (by decide) rfl (pv 4)) (d_cons (j_var (k := .d) (by decide) rfl (pv 3)) d_nil)))) (b_nil)) (b_nil)) (b_nil' (Γ' := [.d, .d, .d, .n, .n]) rfl)))) (b_one (s_ret rfl (j_var (k := .d) (by decide) rfl (pv 2)))))⟩
/-! fewest_late -/
abbrev st_fewest_late : Stmt := top 56
abbrev N_fewest_late : List Str := ["queue"]
def m_fewest_late : MS := (mRet (mCallL f_best_rows (mCons (mVar 0) mNil) 0 [0]))
def f_fewest_late : List PyData → Res PyData := runFn m_fewest_late 0
theorem sc_fewest_late : FnScope N_fewest_late ["queue"] (defScope st_fewest_late) := ⟨rfl, rfl, rfl, by decide +kernel, rfl, by decide +kernel, by decide +kernel⟩
theorem b_fewest_late {fa : Addr} {cdv : Value} (g : Gs P K mg) (M : Mk base mg "fewest_late.<locals>.<lambda>" cdv) (F_best_rows : Fn P w K mg base 4 2 .p "best_rows" f_best_rows) : Body P w K mg base N_fewest_late "fewest_late" (defScope st_fewest_late) fa cdv (defBody st_fewest_late) 4 1 0 .p m_fewest_late := by
  intro A0 outer s H E A X z tk ps
  exact ⟨[], b_one (s_ret rfl (j_callL (t := tx_0) (idx := [0]) F_best_rows z rfl rfl rfl rfl rfl (by decide +kernel) rfl rfl (by decide) (fun _ => rfl) (al_cons (j_var (k := .d) (by decide) rfl (pv 0)) (al_lam (t := tx_0) M rfl rfl rfl))))⟩
/-! least_lateness -/
abbrev st_least_lateness : Stmt := top 62
abbrev N_least_lateness : List Str := ["queue"]
def m_least_lateness : MS := (mRet (mCallL f_best_rows (mCons (mVar 0) mNil) 2 [0]))
def f_least_lateness : List PyData → Res PyData := runFn m_least_lateness 0
theorem sc_least_lateness : FnScope N_least_lateness ["queue"] (defScope st_least_lateness) := ⟨rfl, rfl, rfl, by decide +kernel, rfl, by decide +kernel, by decide +kernel⟩
theorem b_least_lateness {fa : Addr} {cdv : Value} (g : Gs P K mg) (M : Mk base mg "least_lateness.<locals>.<lambda>" cdv) (F_best_rows : Fn P w K mg base 4 2 .p "best_rows" f_best_rows) : Body P w K mg base N_least_lateness "least_lateness" (defScope st_least_lateness) fa cdv (defBody st_least_lateness) 4 1 0 .p m_least_lateness := by
  intro A0 outer s H E A X z tk ps
  exact ⟨[], b_one (s_ret rfl (j_callL (t := tx_2) (idx := [0]) F_best_rows z rfl rfl rfl rfl rfl (by decide +kernel) rfl rfl (by decide) (fun _ => rfl) (al_cons (j_var (k := .d) (by decide) rfl (pv 0)) (al_lam (t := tx_2) M rfl rfl rfl))))⟩
/-! least_waiting -/
abbrev st_least_waiting : Stmt := top 65
abbrev N_least_waiting : List Str := ["queue"]
def m_least_waiting : MS := (mRet (mCallL f_best_rows (mCons (mVar 0) mNil) 4 [0]))
def f_least_waiting : List PyData → Res PyData := runFn m_least_waiting 0
theorem sc_least_waiting : FnScope N_least_waiting ["queue"] (defScope st_least_waiting) := ⟨rfl, rfl, rfl, by decide +kernel, rfl, by decide +kernel, by decide +kernel⟩
theorem b_least_waiting {fa : Addr} {cdv : Value} (g : Gs P K mg) (M : Mk base mg "least_waiting.<locals>.<lambda>" cdv) (F_best_rows : Fn P w K mg base 4 2 .p "best_rows" f_best_rows) : Body P w K mg base N_least_waiting "least_waiting" (defScope st_least_waiting) fa cdv (defBody st_least_waiting) 4 1 0 .p m_least_waiting := by
  intro A0 outer s H E A X z tk ps
  exact ⟨[], b_one (s_ret rfl (j_callL (t := tx_4) (idx := [0]) F_best_rows z rfl rfl rfl rfl rfl (by decide +kernel) rfl rfl (by decide) (fun _ => rfl) (al_cons (j_var (k := .d) (by decide) rfl (pv 0)) (al_lam (t := tx_4) M rfl rfl rfl))))⟩
/-! lambda 1 -/
def m_lam1 : ME := (mOpL fLen (mCons (mCall f_late_by (mCons (mVar 1) (mCons (mVar 0) mNil))) mNil))
theorem ls_lam1 : LamS tx_1 := lamS_by (by decide +kernel)
theorem b_lam1 (g : Gs P K mg) (F_late_by : Fn P w K mg base 2 2 .f "late_by" f_late_by) : LamBody P w K mg base tx_1 2 m_lam1 := by
  intro A0 outer s H E f c cl A hcl X z
  exact ⟨.p, rfl, j_len z g.b_len (j_call F_late_by z rfl (.inl rfl) (.inr rfl) rfl (l_cons (j_var (k := .d) (by decide) rfl (pv 1)) (l_cons (j_var (k := .d) (by decide) rfl (pv 0)) l_nil)))⟩
/-! lambda 3 -/
def m_lam3 : ME := (mCall f_lateness (mCons (mVar 1) (mCons (mVar 0) (mCons (mCall f_ends_by (mCons (mVar 1) (mCons (mVar 0) mNil))) mNil))))
theorem ls_lam3 : LamS tx_3 := lamS_by (by decide +kernel)
theorem b_lam3 (g : Gs P K mg) (F_ends_by : Fn P w K mg base 1 2 .f "ends_by" f_ends_by) (F_lateness : Fn P w K mg base 1 3 .p "lateness" f_lateness) : LamBody P w K mg base tx_3 1 m_lam3 := by
  intro A0 outer s H E f c cl A hcl X z
  exact ⟨.p, rfl, j_call F_lateness z rfl (.inl rfl) (.inl rfl) rfl (l_cons (j_var (k := .d) (by decide) rfl (pv 1)) (l_cons (j_var (k := .d) (by decide) rfl (pv 0)) (l_cons (j_call F_ends_by z rfl (.inl rfl) (.inr rfl) rfl (l_cons (j_var (k := .d) (by decide) rfl (pv 1)) (l_cons (j_var (k := .d) (by decide) rfl (pv 0)) l_nil))) l_nil)))⟩
/-! lambda 5 -/
def m_lam5 : ME := (mCall f_waits_in (mCons (mVar 1) (mCons (mVar 0) (mCons (mCall f_ends_by (mCons (mVar 1) (mCons (mVar 0) mNil))) mNil))))
theorem ls_lam5 : LamS tx_5 := lamS_by (by decide +kernel)
theorem b_lam5 (g : Gs P K mg) (F_ends_by : Fn P w K mg base 1 2 .f "ends_by" f_ends_by) (F_waits_in : Fn P w K mg base 1 3 .p "waits_in" f_waits_in) : LamBody P w K mg base tx_5 1 m_lam5 := by
  intro A0 outer s H E f c cl A hcl X z
  exact ⟨.p, rfl, j_call F_waits_in z rfl (.inl rfl) (.inl rfl) rfl (l_cons (j_var (k := .d) (by decide) rfl (pv 1)) (l_cons (j_var (k := .d) (by decide) rfl (pv 0)) (l_cons (j_call F_ends_by z rfl (.inl rfl) (.inr rfl) rfl (l_cons (j_var (k := .d) (by decide) rfl (pv 1)) (l_cons (j_var (k := .d) (by decide) rfl (pv 0)) l_nil))) l_nil)))⟩
/-! the lambdas that are handed to one def: pair -/
def g_pair : Nat → List PyData → List PyData → Res PyData
  | 0 => fun _ _ => .bad
  | 1 => gLam m_lam1
  | 2 => fun _ _ => .bad
  | 3 => gLam m_lam3
  | 4 => fun _ _ => .bad
  | 5 => gLam m_lam5
  | _ => fun _ _ => .bad
theorem L_pair (g : Gs P K mg) (F_late_by : Fn P w K mg base 2 2 .f "late_by" f_late_by) (F_ends_by : Fn P w K mg base 1 2 .f "ends_by" f_ends_by) (F_lateness : Fn P w K mg base 1 3 .p "lateness" f_lateness) (F_waits_in : Fn P w K mg base 1 3 .p "waits_in" f_waits_in) : LamAll P w K mg base 3 1 g_pair
  | 0 => lamFn_bad
  | 1 => (lam_fn (t := tx_1) rfl ls_lam1 rfl (fun cl pm cv ctv us hl => match us, hl with | [_], _ => rfl) (b_lam1 g F_late_by)).mono rfl
  | 2 => lamFn_bad
  | 3 => (lam_fn (t := tx_3) rfl ls_lam3 rfl (fun cl pm cv ctv us hl => match us, hl with | [_], _ => rfl) (b_lam3 g F_ends_by F_lateness)).mono rfl
  | 4 => lamFn_bad
  | 5 => (lam_fn (t := tx_5) rfl ls_lam5 rfl (fun cl pm cv ctv us hl => match us, hl with | [_], _ => rfl) (b_lam5 g F_ends_by F_waits_in)).mono rfl
  | _ + 6 => lamFn_bad
/-! is_pair -/
abbrev st_is_pair : Stmt := top 57
abbrev N_is_pair : List Str := ["queue", "value", "best", "number"]
def m_is_pair : MS := (mSeq (mIfS (mOrT (mNotT (mTest (mOp1 (fIsa .tuple) (mVar 1)) asB)) (mOrT (mTest (mOp2 (gd fNe) (mOpL fLen (mCons (mVar 1) mNil)) (mC (.int 2))) asB) (mNotT (mTest (mCall f_is_between (mCons (mOp2 fIx (mVar 1) (mC (.int 0))) (mCons (mC (.int 0)) (mCons (mC (.int 1000)) mNil)))) asB)))) (mRet (mC (.bool false))) mNext) (mRet (mAndV (mCall f_is_all (mCons (mVar 0) (mCons (mOp2 fIx (mVar 1) (mC (.int 1))) mNil))) (mChain (gd fEq) (gd fEq) (mOp2 fIx (mVar 1) (mC (.int 0))) (mOp2 fIx (mVar 2) (mC (.int 0))) (mCallV g_pair 3 (mCons (mOp2 fIx (mVar 1) (mC (.int 1))) mNil))))))
def f_is_pair : List PyData → Res PyData := runFn m_is_pair 0
theorem sc_is_pair : FnScope N_is_pair ["queue", "value", "best", "number"] (defScope st_is_pair) := ⟨rfl, rfl, rfl, by decide +kernel, rfl, by decide +kernel, by decide +kernel⟩
theorem b_is_pair {fa : Addr} {cdv : Value} (g : Gs P K mg) (L_pair : LamAll P w K mg base 3 1 g_pair) (F_is_between : Fn P w K mg base 2 3 .p "is_between" f_is_between) (F_is_all : Fn P w K mg base 5 2 .p "is_all" f_is_all) : Body P w K mg base N_is_pair "is_pair" (defScope st_is_pair) fa cdv (defBody st_is_pair) 5 4 0 .p m_is_pair := by
  intro A0 outer s H E A X z tk ps
  exact ⟨[], b_cons (s_if (PW.pt (k_or (k_not (k_val (j_isa (t := .tuple) g.b_isinstance (j_var (k := .d) (by decide) rfl (pv 1)) (pe_bltn rfl g.b_tuple bt_tuple rfl)))) (k_or (k_ne z (j_len z g.b_len (j_var (k := .d) (by decide) rfl (pv 1))) (j_const pe_int (.int _))) (k_or1 (k_not (k_val (j_call F_is_between z rfl (.inl rfl) (.inl rfl) rfl (l_cons (j_ix (j_var (k := .d) (by decide) rfl (pv 1)) (j_const pe_int (.int _))) (l_cons (j_const pe_int (.int _)) (l_cons (j_gint g.c_MOST_SUM) l_nil)))))))))) (b_one (s_ret rfl (j_const pe_bl (.bl _)))) (b_nil)) (b_one (s_ret rfl (j_and (fl := .p) (j_call F_is_all z rfl (.inl rfl) (.inl rfl) rfl (l_cons (j_var (k := .d) (by decide) rfl (pv 0)) (l_cons (j_ix (j_var (k := .d) (by decide) rfl (pv 1)) (j_const pe_int (.int _))) l_nil))) (j_one (j_chain (c_eq z) (c_eq z) (j_ix (j_var (k := .d) (by decide) rfl (pv 1)) (j_const pe_int (.int _))) (j_ix (j_var (k := .d) (by decide) rfl (pv 2)) (j_const pe_int (.int _))) (j_callV L_pair z rfl rfl (pv 3) rfl rfl (l_cons (j_ix (j_var (k := .d) (by decide) rfl (pv 1)) (j_const pe_int (.int _))) l_nil)))))))⟩
/-! row_told -/
abbrev st_row_told : Stmt := top 58
abbrev N_row_told : List Str := ["queue", "number", "row"]
def m_row_told : MS := (mSeq (mDrop (mCall f_check_queue (mCons (mVar 0) mNil))) (mSeq (mAsg (mCall f_fewest_late (mCons (mVar 0) mNil)) (gTuple 2 (gMore (gSet 1) (gMore (gSet 2) gNo)))) (mRet (mIfE (mTest (mOp2 (gd fEq) (mVar 1) (mC (.int 0))) asB) (mTup (mCons (mC (.str "row")) (mCons (mVar 2) mNil))) (mTup (mCons (mC (.str "none")) mNil))))))
def f_row_told : List PyData → Res PyData := runFn m_row_told 2
theorem sc_row_told : FnScope N_row_told ["queue"] (defScope st_row_told) := ⟨rfl, rfl, rfl, by decide +kernel, rfl, by decide +kernel, by decide +kernel⟩
theorem b_row_told {fa : Addr} {cdv : Value} (g : Gs P K mg) (F_check_queue : Fn P w K mg base 5 1 .p "check_queue" f_check_queue) (F_fewest_late : Fn P w K mg base 5 1 .p "fewest_late" f_fewest_late) : Body P w K mg base N_row_told "row_told" (defScope st_row_told) fa cdv (defBody st_row_told) 5 1 2 .p m_row_told := by
  intro A0 outer s H E A X z tk ps
  exact ⟨[], b_cons (s_drop (j_call F_check_queue z rfl (.inl rfl) (.inl rfl) rfl (l_cons (j_var (k := .d) (by decide) rfl (pv 0)) l_nil))) (b_cons (s_asg (vs := [1, 2]) (j_call F_fewest_late z rfl (.inl rfl) (.inl rfl) rfl (l_cons (j_var (k := .d) (by decide) rfl (pv 0)) l_nil)) (g_tup z.calm (g_cons ⟨by decide, by decide⟩ (g_name (k := .d) sc_row_told.nd rfl (by first | exact .inl rfl | exact .inr rfl) rfl rfl (by decide) (by decide)) (g_cons ⟨by decide, by decide⟩ (g_name (k := .d) sc_row_told.nd rfl (by first | exact .inl rfl | exact .inr rfl) rfl rfl (by decide) (by decide)) g_nil)))) (b_one (s_ret rfl (j_if (k_eq z (j_var (k := .d) (by decide) rfl (pv 1)) (j_const pe_int (.int _))) (j_tup ⟨by decide, by decide⟩ (d_cons (j_gstr g.c_ROW) (d_cons (j_var (k := .d) (by decide) rfl (pv 2)) d_nil))) (j_tup ⟨by decide, by decide⟩ (d_cons (j_gstr g.c_NONE) d_nil))))))⟩
/-! shows_row -/
abbrev st_shows_row : Stmt := top 59
abbrev N_shows_row : List Str := ["queue", "value"]
def m_shows_row : MS := (mSeq (mDrop (mCall f_check_queue (mCons (mVar 0) mNil))) (mSeq (mIfS (mOrT (mNotT (mTest (mOp1 (fIsa .tuple) (mVar 1)) asB)) (mOrT (mTest (mOp2 (gd fNotIn) (mOpL fLen (mCons (mVar 1) mNil)) (mTup (mCons (mC (.int 1)) (mCons (mC (.int 2)) mNil)))) asB) (mNotT (mTest (mOp1 (fIsa .str) (mOp2 fIx (mVar 1) (mC (.int 0)))) asB)))) (mRet (mC (.bool false))) mNext) (mSeq (mIfS (mTest (mOp2 (gd fEq) (mOpL fLen (mCons (mVar 1) mNil)) (mC (.int 1))) asB) (mRet (mAndV (mOp2 (gd fEq) (mOp2 fIx (mVar 1) (mC (.int 0))) (mC (.str "none"))) (mOp2 (gd fGt) (mOp2 fIx (mCall f_fewest_late (mCons (mVar 0) mNil)) (mC (.int 0))) (mC (.int 0))))) mNext) (mRet (mAndV (mOp2 (gd fEq) (mOp2 fIx (mVar 1) (mC (.int 0))) (mC (.str "row"))) (mAndV (mCall f_is_all (mCons (mVar 0) (mCons (mOp2 fIx (mVar 1) (mC (.int 1))) mNil))) (mOp2 (gd fEq) (mCall f_late_by (mCons (mVar 0) (mCons (mOp2 fIx (mVar 1) (mC (.int 1))) mNil))) (mLst mNil))))))))
def f_shows_row : List PyData → Res PyData := runFn m_shows_row 0
theorem sc_shows_row : FnScope N_shows_row ["queue", "value"] (defScope st_shows_row) := ⟨rfl, rfl, rfl, by decide +kernel, rfl, by decide +kernel, by decide +kernel⟩
theorem b_shows_row {fa : Addr} {cdv : Value} (g : Gs P K mg) (F_check_queue : Fn P w K mg base 5 1 .p "check_queue" f_check_queue) (F_fewest_late : Fn P w K mg base 5 1 .p "fewest_late" f_fewest_late) (F_is_all : Fn P w K mg base 5 2 .p "is_all" f_is_all) (F_late_by : Fn P w K mg base 2 2 .f "late_by" f_late_by) : Body P w K mg base N_shows_row "shows_row" (defScope st_shows_row) fa cdv (defBody st_shows_row) 5 2 0 .p m_shows_row := by
  intro A0 outer s H E A X z tk ps
  exact ⟨[], b_cons (s_drop (j_call F_check_queue z rfl (.inl rfl) (.inl rfl) rfl (l_cons (j_var (k := .d) (by decide) rfl (pv 0)) l_nil))) (b_cons (s_if (PW.pt (k_or (k_not (k_val (j_isa (t := .tuple) g.b_isinstance (j_var (k := .d) (by decide) rfl (pv 1)) (pe_bltn rfl g.b_tuple bt_tuple rfl)))) (k_or (k_notIn z (j_len z g.b_len (j_var (k := .d) (by decide) rfl (pv 1))) (j_tup ⟨by decide, by decide⟩ (d_cons (j_const pe_int (.int _)) (d_cons (j_const pe_int (.int _)) d_nil)))) (k_or1 (k_not (k_val (j_isa (t := .str) g.b_isinstance (j_ix (j_var (k := .d) (by decide) rfl (pv 1)) (j_const pe_int (.int _))) (pe_bltn rfl g.b_str bt_str rfl)))))))) (b_one (s_ret rfl (j_const pe_bl (.bl _)))) (b_nil)) (b_cons (s_if (k_eq z (j_len z g.b_len (j_var (k := .d) (by decide) rfl (pv 1))) (j_const pe_int (.int _))) (b_one (s_ret rfl (j_and (fl := .p) (j_eq z (j_ix (j_var (k := .d) (by decide) rfl (pv 1)) (j_const pe_int (.int _))) (j_gstr g.c_NONE)) (j_one (j_gt z (j_ix (j_call F_fewest_late z rfl (.inl rfl) (.inl rfl) rfl (l_cons (j_var (k := .d) (by decide) rfl (pv 0)) l_nil)) (j_const pe_int (.int _))) (j_const pe_int (.int _))))))) (b_nil)) (b_one (s_ret rfl (j_and (fl := .p) (j_eq z (j_ix (j_var (k := .d) (by decide) rfl (pv 1)) (j_const pe_int (.int _))) (j_gstr g.c_ROW)) (j_and (fl := .p) (j_call F_is_all z rfl (.inl rfl) (.inl rfl) rfl (l_cons (j_var (k := .d) (by decide) rfl (pv 0)) (l_cons (j_ix (j_var (k := .d) (by decide) rfl (pv 1)) (j_const pe_int (.int _))) l_nil))) (j_one (j_eq z (j_call F_late_by z rfl (.inl rfl) (.inr rfl) rfl (l_cons (j_var (k := .d) (by decide) rfl (pv 0)) (l_cons (j_ix (j_var (k := .d) (by decide) rfl (pv 1)) (j_const pe_int (.int _))) l_nil))) (j_lst d_nil)))))))))⟩
/-! least_late -/
abbrev st_least_late : Stmt := top 60
abbrev N_least_late : List Str := ["queue"]
def m_least_late : MS := (mSeq (mDrop (mCall f_check_queue (mCons (mVar 0) mNil))) (mRet (mCall f_fewest_late (mCons (mVar 0) mNil))))
def f_least_late : List PyData → Res PyData := runFn m_least_late 0
theorem sc_least_late : FnScope N_least_late ["queue"] (defScope st_least_late) := ⟨rfl, rfl, rfl, by decide +kernel, rfl, by decide +kernel, by decide +kernel⟩
theorem b_least_late {fa : Addr} {cdv : Value} (g : Gs P K mg) (F_check_queue : Fn P w K mg base 5 1 .p "check_queue" f_check_queue) (F_fewest_late : Fn P w K mg base 5 1 .p "fewest_late" f_fewest_late) : Body P w K mg base N_least_late "least_late" (defScope st_least_late) fa cdv (defBody st_least_late) 5 1 0 .p m_least_late := by
  intro A0 outer s H E A X z tk ps
  exact ⟨[], b_cons (s_drop (j_call F_check_queue z rfl (.inl rfl) (.inl rfl) rfl (l_cons (j_var (k := .d) (by decide) rfl (pv 0)) l_nil))) (b_one (s_ret rfl (j_call F_fewest_late z rfl (.inl rfl) (.inl rfl) rfl (l_cons (j_var (k := .d) (by decide) rfl (pv 0)) l_nil))))⟩
/-! shows_least_late -/
abbrev st_shows_least_late : Stmt := top 61
abbrev N_shows_least_late : List Str := ["queue", "value"]
def m_shows_least_late : MS := (mSeq (mDrop (mCall f_check_queue (mCons (mVar 0) mNil))) (mRet (mCallL f_is_pair (mCons (mVar 0) (mCons (mVar 1) (mCons (mCall f_fewest_late (mCons (mVar 0) mNil)) mNil))) 1 [0])))
def f_shows_least_late : List PyData → Res PyData := runFn m_shows_least_late 0
theorem sc_shows_least_late : FnScope N_shows_least_late ["queue", "value"] (defScope st_shows_least_late) := ⟨rfl, rfl, rfl, by decide +kernel, rfl, by decide +kernel, by decide +kernel⟩
theorem b_shows_least_late {fa : Addr} {cdv : Value} (g : Gs P K mg) (M : Mk base mg "shows_least_late.<locals>.<lambda>" cdv) (F_check_queue : Fn P w K mg base 5 1 .p "check_queue" f_check_queue) (F_fewest_late : Fn P w K mg base 5 1 .p "fewest_late" f_fewest_late) (F_is_pair : Fn P w K mg base 6 4 .p "is_pair" f_is_pair) : Body P w K mg base N_shows_least_late "shows_least_late" (defScope st_shows_least_late) fa cdv (defBody st_shows_least_late) 6 2 0 .p m_shows_least_late := by
  intro A0 outer s H E A X z tk ps
  exact ⟨[], b_cons (s_drop (j_call F_check_queue z rfl (.inl rfl) (.inl rfl) rfl (l_cons (j_var (k := .d) (by decide) rfl (pv 0)) l_nil))) (b_one (s_ret rfl (j_callL (t := tx_1) (idx := [0]) F_is_pair z rfl rfl rfl rfl rfl (by decide +kernel) rfl rfl (by decide) (fun _ => rfl) (al_cons (j_var (k := .d) (by decide) rfl (pv 0)) (al_cons (j_var (k := .d) (by decide) rfl (pv 1)) (al_cons (j_call F_fewest_late z rfl (.inl rfl) (.inl rfl) rfl (l_cons (j_var (k := .d) (by decide) rfl (pv 0)) l_nil)) (al_lam (t := tx_1) M rfl rfl rfl)))))))⟩
/-! least_greatest -/
abbrev st_least_greatest : Stmt := top 63
abbrev N_least_greatest : List Str := ["queue"]
def m_least_greatest : MS := (mSeq (mDrop (mCall f_check_queue (mCons (mVar 0) mNil))) (mRet (mCall f_least_lateness (mCons (mVar 0) mNil))))
def f_least_greatest : List PyData → Res PyData := runFn m_least_greatest 0
theorem sc_least_greatest : FnScope N_least_greatest ["queue"] (defScope st_least_greatest) := ⟨rfl, rfl, rfl, by decide +kernel, rfl, by decide +kernel, by decide +kernel⟩
theorem b_least_greatest {fa : Addr} {cdv : Value} (g : Gs P K mg) (F_check_queue : Fn P w K mg base 5 1 .p "check_queue" f_check_queue) (F_least_lateness : Fn P w K mg base 5 1 .p "least_lateness" f_least_lateness) : Body P w K mg base N_least_greatest "least_greatest" (defScope st_least_greatest) fa cdv (defBody st_least_greatest) 5 1 0 .p m_least_greatest := by
  intro A0 outer s H E A X z tk ps
  exact ⟨[], b_cons (s_drop (j_call F_check_queue z rfl (.inl rfl) (.inl rfl) rfl (l_cons (j_var (k := .d) (by decide) rfl (pv 0)) l_nil))) (b_one (s_ret rfl (j_call F_least_lateness z rfl (.inl rfl) (.inl rfl) rfl (l_cons (j_var (k := .d) (by decide) rfl (pv 0)) l_nil))))⟩
/-! shows_least_greatest -/
abbrev st_shows_least_greatest : Stmt := top 64
abbrev N_shows_least_greatest : List Str := ["queue", "value"]
def m_shows_least_greatest : MS := (mSeq (mDrop (mCall f_check_queue (mCons (mVar 0) mNil))) (mRet (mCallL f_is_pair (mCons (mVar 0) (mCons (mVar 1) (mCons (mCall f_least_lateness (mCons (mVar 0) mNil)) mNil))) 3 [0])))
def f_shows_least_greatest : List PyData → Res PyData := runFn m_shows_least_greatest 0
theorem sc_shows_least_greatest : FnScope N_shows_least_greatest ["queue", "value"] (defScope st_shows_least_greatest) := ⟨rfl, rfl, rfl, by decide +kernel, rfl, by decide +kernel, by decide +kernel⟩
theorem b_shows_least_greatest {fa : Addr} {cdv : Value} (g : Gs P K mg) (M : Mk base mg "shows_least_greatest.<locals>.<lambda>" cdv) (F_check_queue : Fn P w K mg base 5 1 .p "check_queue" f_check_queue) (F_least_lateness : Fn P w K mg base 5 1 .p "least_lateness" f_least_lateness) (F_is_pair : Fn P w K mg base 6 4 .p "is_pair" f_is_pair) : Body P w K mg base N_shows_least_greatest "shows_least_greatest" (defScope st_shows_least_greatest) fa cdv (defBody st_shows_least_greatest) 6 2 0 .p m_shows_least_greatest := by
  intro A0 outer s H E A X z tk ps
  exact ⟨[], b_cons (s_drop (j_call F_check_queue z rfl (.inl rfl) (.inl rfl) rfl (l_cons (j_var (k := .d) (by decide) rfl (pv 0)) l_nil))) (b_one (s_ret rfl (j_callL (t := tx_3) (idx := [0]) F_is_pair z rfl rfl rfl rfl rfl (by decide +kernel) rfl rfl (by decide) (fun _ => rfl) (al_cons (j_var (k := .d) (by decide) rfl (pv 0)) (al_cons (j_var (k := .d) (by decide) rfl (pv 1)) (al_cons (j_call F_least_lateness z rfl (.inl rfl) (.inl rfl) rfl (l_cons (j_var (k := .d) (by decide) rfl (pv 0)) l_nil)) (al_lam (t := tx_3) M rfl rfl rfl)))))))⟩
/-! least_waits -/
abbrev st_least_waits : Stmt := top 66
abbrev N_least_waits : List Str := ["queue"]
def m_least_waits : MS := (mSeq (mDrop (mCall f_check_queue (mCons (mVar 0) mNil))) (mRet (mCall f_least_waiting (mCons (mVar 0) mNil))))
def f_least_waits : List PyData → Res PyData := runFn m_least_waits 0
theorem sc_least_waits : FnScope N_least_waits ["queue"] (defScope st_least_waits) := ⟨rfl, rfl, rfl, by decide +kernel, rfl, by decide +kernel, by decide +kernel⟩
theorem b_least_waits {fa : Addr} {cdv : Value} (g : Gs P K mg) (F_check_queue : Fn P w K mg base 5 1 .p "check_queue" f_check_queue) (F_least_waiting : Fn P w K mg base 5 1 .p "least_waiting" f_least_waiting) : Body P w K mg base N_least_waits "least_waits" (defScope st_least_waits) fa cdv (defBody st_least_waits) 5 1 0 .p m_least_waits := by
  intro A0 outer s H E A X z tk ps
  exact ⟨[], b_cons (s_drop (j_call F_check_queue z rfl (.inl rfl) (.inl rfl) rfl (l_cons (j_var (k := .d) (by decide) rfl (pv 0)) l_nil))) (b_one (s_ret rfl (j_call F_least_waiting z rfl (.inl rfl) (.inl rfl) rfl (l_cons (j_var (k := .d) (by decide) rfl (pv 0)) l_nil))))⟩
/-! shows_least_waits -/
abbrev st_shows_least_waits : Stmt := top 67
abbrev N_shows_least_waits : List Str := ["queue", "value"]
def m_shows_least_waits : MS := (mSeq (mDrop (mCall f_check_queue (mCons (mVar 0) mNil))) (mRet (mCallL f_is_pair (mCons (mVar 0) (mCons (mVar 1) (mCons (mCall f_least_waiting (mCons (mVar 0) mNil)) mNil))) 5 [0])))
def f_shows_least_waits : List PyData → Res PyData := runFn m_shows_least_waits 0
theorem sc_shows_least_waits : FnScope N_shows_least_waits ["queue", "value"] (defScope st_shows_least_waits) := ⟨rfl, rfl, rfl, by decide +kernel, rfl, by decide +kernel, by decide +kernel⟩
theorem b_shows_least_waits {fa : Addr} {cdv : Value} (g : Gs P K mg) (M : Mk base mg "shows_least_waits.<locals>.<lambda>" cdv) (F_check_queue : Fn P w K mg base 5 1 .p "check_queue" f_check_queue) (F_least_waiting : Fn P w K mg base 5 1 .p "least_waiting" f_least_waiting) (F_is_pair : Fn P w K mg base 6 4 .p "is_pair" f_is_pair) : Body P w K mg base N_shows_least_waits "shows_least_waits" (defScope st_shows_least_waits) fa cdv (defBody st_shows_least_waits) 6 2 0 .p m_shows_least_waits := by
  intro A0 outer s H E A X z tk ps
  exact ⟨[], b_cons (s_drop (j_call F_check_queue z rfl (.inl rfl) (.inl rfl) rfl (l_cons (j_var (k := .d) (by decide) rfl (pv 0)) l_nil))) (b_one (s_ret rfl (j_callL (t := tx_5) (idx := [0]) F_is_pair z rfl rfl rfl rfl rfl (by decide +kernel) rfl rfl (by decide) (fun _ => rfl) (al_cons (j_var (k := .d) (by decide) rfl (pv 0)) (al_cons (j_var (k := .d) (by decide) rfl (pv 1)) (al_cons (j_call F_least_waiting z rfl (.inl rfl) (.inl rfl) rfl (l_cons (j_var (k := .d) (by decide) rfl (pv 0)) l_nil)) (al_lam (t := tx_5) M rfl rfl rfl)))))))⟩
/-! swapped -/
abbrev st_swapped : Stmt := top 68
abbrev N_swapped : List Str := ["queue", "row", "place"]
def m_swapped : MS := (mSeq (mDrop (mCall f_check_row (mCons (mVar 0) (mCons (mVar 1) mNil)))) (mSeq (mIfS (mNotT (mTest (mCall f_is_all (mCons (mVar 0) (mCons (mVar 1) mNil))) asB)) (mRaise "NotAll" (mVar 1)) mNext) (mSeq (mIfS (mNotT (mTest (mCall f_is_between (mCons (mVar 2) (mCons (mC (.int 0)) (mCons (mOp2 fSub (mOpL fLen (mCons (mVar 1) mNil)) (mC (.int 2))) mNil)))) asB)) (mRaise "BadPlace" (mVar 2)) mNext) (mRet (mTup (mStar (mSlA (mVar 1) mNo (mPart (mVar 2))) (mCons (mOp2 fIx (mVar 1) (mOp2 fAdd (mVar 2) (mC (.int 1)))) (mCons (mOp2 fIx (mVar 1) (mVar 2)) (mStar (mSlA (mVar 1) (mPart (mOp2 fAdd (mVar 2) (mC (.int 2)))) mNo) mNil)))))))))
def f_swapped : List PyData → Res PyData := runFn m_swapped 0
theorem sc_swapped : FnScope N_swapped ["queue", "row", "place"] (defScope st_swapped) := ⟨rfl, rfl, rfl, by decide +kernel, rfl, by decide +kernel, by decide +kernel⟩
theorem b_swapped {fa : Addr} {cdv : Value} (g : Gs P K mg) (F_check_row : Fn P w K mg base 6 2 .p "check_row" f_check_row) (F_is_all : Fn P w K mg base 5 2 .p "is_all" f_is_all) (F_is_between : Fn P w K mg base 2 3 .p "is_between" f_is_between) : Body P w K mg base N_swapped "swapped" (defScope st_swapped) fa cdv (defBody st_swapped) 6 3 0 .p m_swapped := by
  intro A0 outer s H E A X z tk ps
  exact ⟨[], b_cons (s_drop (j_call F_check_row z rfl (.inl rfl) (.inl rfl) rfl (l_cons (j_var (k := .d) (by decide) rfl (pv 0)) (l_cons (j_var (k := .d) (by decide) rfl (pv 1)) l_nil)))) (b_cons (s_if (k_not (k_val (j_call F_is_all z rfl (.inl rfl) (.inl rfl) rfl (l_cons (j_var (k := .d) (by decide) rfl (pv 0)) (l_cons (j_var (k := .d) (by decide) rfl (pv 1)) l_nil))))) (b_one (s_raise (W := fun _ _ _ _ => False) z tk g.e_NotAll rfl (j_var (k := .d) (by decide) rfl (pv 1)))) (b_nil)) (b_cons (s_if (k_not (k_val (j_call F_is_between z rfl (.inl rfl) (.inl rfl) rfl (l_cons (j_var (k := .d) (by decide) rfl (pv 2)) (l_cons (j_const pe_int (.int _)) (l_cons (j_sub (j_len z g.b_len (j_var (k := .d) (by decide) rfl (pv 1))) (j_const pe_int (.int _))) l_nil)))))) (b_one (s_raise (W := fun _ _ _ _ => False) z tk g.e_BadPlace rfl (j_var (k := .d) (by decide) rfl (pv 2)))) (b_nil)) (b_one (s_ret rfl (j_tup ⟨by decide, by decide⟩ (d_star (j_sl (j_var (k := .d) (by decide) rfl (pv 1)) o_no (o_part (j_var (k := .d) (by decide) rfl (pv 2)))) (d_cons (j_ix (j_var (k := .d) (by decide) rfl (pv 1)) (j_add (j_var (k := .d) (by decide) rfl (pv 2)) (j_const pe_int (.int _)))) (d_cons (j_ix (j_var (k := .d) (by decide) rfl (pv 1)) (j_var (k := .d) (by decide) rfl (pv 2))) (d_star (j_sl (j_var (k := .d) (by decide) rfl (pv 1)) (o_part (j_add (j_var (k := .d) (by decide) rfl (pv 2)) (j_const pe_int (.int _)))) o_no) d_nil)))))))))⟩
end
end PG
set_option maxHeartbeats 4000000
namespace PG
open PySem PySem.Spec PyProof.Rows L2 PD
section
variable {P : Program} {w : World} {K : PySem.W.Frag} {mg : Str → Option Value} {base : Heap}
/-! lambda 6 -/
def m_lam6 : ME := (mCall f_is_row (mCons (mVar 0) (mCons (mC .none) mNil)))
theorem ls_lam6 : LamS tx_6 := lamS_by (by decide +kernel)
theorem b_lam6 (g : Gs P K mg) (F_is_row : Fn P w K mg base 6 2 .p "is_row" f_is_row) : LamBody P w K mg base tx_6 6 m_lam6 := by
  intro A0 outer s H E f c cl A hcl X z
  exact ⟨.p, rfl, j_call F_is_row z rfl (.inl rfl) (.inl rfl) rfl (l_cons (j_var (k := .d) (by decide) rfl (pv 0)) (l_cons (j_const pe_non .non) l_nil))⟩
/-! lambda 7 -/
def m_lam7 : ME := (mCall f_is_plan (mCons (mVar 0) (mCons (mC .none) mNil)))
theorem ls_lam7 : LamS tx_7 := lamS_by (by decide +kernel)
theorem b_lam7 (g : Gs P K mg) (F_is_plan : Fn P w K mg base 6 2 .p "is_plan" f_is_plan) : LamBody P w K mg base tx_7 6 m_lam7 := by
  intro A0 outer s H E f c cl A hcl X z
  exact ⟨.p, rfl, j_call F_is_plan z rfl (.inl rfl) (.inl rfl) rfl (l_cons (j_var (k := .d) (by decide) rfl (pv 0)) (l_cons (j_const pe_non .non) l_nil))⟩
/-! lambda 8 -/
def m_lam8 : ME := (mCall f_ends_of (mCons (mVar 1) (mCons (mVar 0) mNil)))
theorem ls_lam8 : LamS tx_8 := lamS_by (by decide +kernel)
theorem b_lam8 (g : Gs P K mg) (F_ends_of : Fn P w K mg base 7 2 .p "ends_of" f_ends_of) : LamBody P w K mg base tx_8 7 m_lam8 := by
  intro A0 outer s H E f c cl A hcl X z
  exact ⟨.p, rfl, j_call F_ends_of z rfl (.inl rfl) (.inl rfl) rfl (l_cons (j_var (k := .d) (by decide) rfl (pv 1)) (l_cons (j_var (k := .d) (by decide) rfl (pv 0)) l_nil))⟩
/-! lambda 9 -/
def m_lam9 : ME := (mCall f_late_in (mCons (mVar 1) (mCons (mVar 0) mNil)))
theorem ls_lam9 : LamS tx_9 := lamS_by (by decide +kernel)
theorem b_lam9 (g : Gs P K mg) (F_late_in : Fn P w K mg base 7 2 .p "late_in" f_late_in) : LamBody P w K mg base tx_9 7 m_lam9 := by
  intro A0 outer s H E f c cl A hcl X z
  exact ⟨.p, rfl, j_call F_late_in z rfl (.inl rfl) (.inl rfl) rfl (l_cons (j_var (k := .d) (by decide) rfl (pv 1)) (l_cons (j_var (k := .d) (by decide) rfl (pv 0)) l_nil))⟩
/-! lambda 10 -/
def m_lam10 : ME := (mCall f_plan_told (mCons (mVar 0) mNil))
theorem ls_lam10 : LamS tx_10 := lamS_by (by decide +kernel)
theorem b_lam10 (g : Gs P K mg) (F_plan_told : Fn P w K mg base 6 1 .p "plan_told" f_plan_told) : LamBody P w K mg base tx_10 6 m_lam10 := by
  intro A0 outer s H E f c cl A hcl X z
  exact ⟨.p, rfl, j_call F_plan_told z rfl (.inl rfl) (.inl rfl) rfl (l_cons (j_var (k := .d) (by decide) rfl (pv 0)) l_nil)⟩
/-! lambda 11 -/
def m_lam11 : ME := (mCall f_shows_plan (mCons (mVar 0) (mCons (mC .none) mNil)))
theorem ls_lam11 : LamS tx_11 := lamS_by (by decide +kernel)
theorem b_lam11 (g : Gs P K mg) (F_shows_plan : Fn P w K mg base 6 2 .p "shows_plan" f_shows_plan) : LamBody P w K mg base tx_11 6 m_lam11 := by
  intro A0 outer s H E f c cl A hcl X z
  exact ⟨.p, rfl, j_call F_shows_plan z rfl (.inl rfl) (.inl rfl) rfl (l_cons (j_var (k := .d) (by decide) rfl (pv 0)) (l_cons (j_const pe_non .non) l_nil))⟩
/-! lambda 12 -/
def m_lam12 : ME := (mCall f_most_planned (mCons (mVar 0) mNil))
theorem ls_lam12 : LamS tx_12 := lamS_by (by decide +kernel)
theorem b_lam12 (g : Gs P K mg) (F_most_planned : Fn P w K mg base 6 1 .p "most_planned" f_most_planned) : LamBody P w K mg base tx_12 6 m_lam12 := by
  intro A0 outer s H E f c cl A hcl X z
  exact ⟨.p, rfl, j_call F_most_planned z rfl (.inl rfl) (.inl rfl) rfl (l_cons (j_var (k := .d) (by decide) rfl (pv 0)) l_nil)⟩
/-! lambda 13 -/
def m_lam13 : ME := (mCall f_shows_most_planned (mCons (mVar 0) (mCons (mC .none) mNil)))
theorem ls_lam13 : LamS tx_13 := lamS_by (by decide +kernel)
theorem b_lam13 (g : Gs P K mg) (F_shows_most_planned : Fn P w K mg base 6 2 .p "shows_most_planned" f_shows_most_planned) : LamBody P w K mg base tx_13 6 m_lam13 := by
  intro A0 outer s H E f c cl A hcl X z
  exact ⟨.p, rfl, j_call F_shows_most_planned z rfl (.inl rfl) (.inl rfl) rfl (l_cons (j_var (k := .d) (by decide) rfl (pv 0)) (l_cons (j_const pe_non .non) l_nil))⟩
/-! lambda 14 -/
def m_lam14 : ME := (mCall f_least_hurry (mCons (mVar 0) mNil))
theorem ls_lam14 : LamS tx_14 := lamS_by (by decide +kernel)
theorem b_lam14 (g : Gs P K mg) (F_least_hurry : Fn P w K mg base 6 1 .p "least_hurry" f_least_hurry) : LamBody P w K mg base tx_14 6 m_lam14 := by
  intro A0 outer s H E f c cl A hcl X z
  exact ⟨.p, rfl, j_call F_least_hurry z rfl (.inl rfl) (.inl rfl) rfl (l_cons (j_var (k := .d) (by decide) rfl (pv 0)) l_nil)⟩
/-! lambda 15 -/
def m_lam15 : ME := (mCall f_row_told (mCons (mVar 0) mNil))
theorem ls_lam15 : LamS tx_15 := lamS_by (by decide +kernel)
theorem b_lam15 (g : Gs P K mg) (F_row_told : Fn P w K mg base 6 1 .p "row_told" f_row_told) : LamBody P w K mg base tx_15 6 m_lam15 := by
  intro A0 outer s H E f c cl A hcl X z
  exact ⟨.p, rfl, j_call F_row_told z rfl (.inl rfl) (.inl rfl) rfl (l_cons (j_var (k := .d) (by decide) rfl (pv 0)) l_nil)⟩
/-! lambda 16 -/
def m_lam16 : ME := (mCall f_shows_row (mCons (mVar 0) (mCons (mC .none) mNil)))
theorem ls_lam16 : LamS tx_16 := lamS_by (by decide +kernel)
theorem b_lam16 (g : Gs P K mg) (F_shows_row : Fn P w K mg base 6 2 .p "shows_row" f_shows_row) : LamBody P w K mg base tx_16 6 m_lam16 := by
  intro A0 outer s H E f c cl A hcl X z
  exact ⟨.p, rfl, j_call F_shows_row z rfl (.inl rfl) (.inl rfl) rfl (l_cons (j_var (k := .d) (by decide) rfl (pv 0)) (l_cons (j_const pe_non .non) l_nil))⟩
/-! lambda 17 -/
def m_lam17 : ME := (mCall f_least_late (mCons (mVar 0) mNil))
theorem ls_lam17 : LamS tx_17 := lamS_by (by decide +kernel)
theorem b_lam17 (g : Gs P K mg) (F_least_late : Fn P w K mg base 6 1 .p "least_late" f_least_late) : LamBody P w K mg base tx_17 6 m_lam17 := by
  intro A0 outer s H E f c cl A hcl X z
  exact ⟨.p, rfl, j_call F_least_late z rfl (.inl rfl) (.inl rfl) rfl (l_cons (j_var (k := .d) (by decide) rfl (pv 0)) l_nil)⟩
/-! lambda 18 -/
def m_lam18 : ME := (mCall f_shows_least_late (mCons (mVar 0) (mCons (mC .none) mNil)))
theorem ls_lam18 : LamS tx_18 := lamS_by (by decide +kernel)
theorem b_lam18 (g : Gs P K mg) (F_shows_least_late : Fn P w K mg base 7 2 .p "shows_least_late" f_shows_least_late) : LamBody P w K mg base tx_18 7 m_lam18 := by
  intro A0 outer s H E f c cl A hcl X z
  exact ⟨.p, rfl, j_call F_shows_least_late z rfl (.inl rfl) (.inl rfl) rfl (l_cons (j_var (k := .d) (by decide) rfl (pv 0)) (l_cons (j_const pe_non .non) l_nil))⟩
/-! lambda 19 -/
def m_lam19 : ME := (mCall f_least_greatest (mCons (mVar 0) mNil))
theorem ls_lam19 : LamS tx_19 := lamS_by (by decide +kernel)
theorem b_lam19 (g : Gs P K mg) (F_least_greatest : Fn P w K mg base 6 1 .p "least_greatest" f_least_greatest) : LamBody P w K mg base tx_19 6 m_lam19 := by
  intro A0 outer s H E f c cl A hcl X z
  exact ⟨.p, rfl, j_call F_least_greatest z rfl (.inl rfl) (.inl rfl) rfl (l_cons (j_var (k := .d) (by decide) rfl (pv 0)) l_nil)⟩
/-! lambda 20 -/
def m_lam20 : ME := (mCall f_shows_least_greatest (mCons (mVar 0) (mCons (mC .none) mNil)))
theorem ls_lam20 : LamS tx_20 := lamS_by (by decide +kernel)
theorem b_lam20 (g : Gs P K mg) (F_shows_least_greatest : Fn P w K mg base 7 2 .p "shows_least_greatest" f_shows_least_greatest) : LamBody P w K mg base tx_20 7 m_lam20 := by
  intro A0 outer s H E f c cl A hcl X z
  exact ⟨.p, rfl, j_call F_shows_least_greatest z rfl (.inl rfl) (.inl rfl) rfl (l_cons (j_var (k := .d) (by decide) rfl (pv 0)) (l_cons (j_const pe_non .non) l_nil))⟩
/-! lambda 21 -/
def m_lam21 : ME := (mCall f_least_waits (mCons (mVar 0) mNil))
theorem ls_lam21 : LamS tx_21 := lamS_by (by decide +kernel)
theorem b_lam21 (g : Gs P K mg) (F_least_waits : Fn P w K mg base 6 1 .p "least_waits" f_least_waits) : LamBody P w K mg base tx_21 6 m_lam21 := by
  intro A0 outer s H E f c cl A hcl X z
  exact ⟨.p, rfl, j_call F_least_waits z rfl (.inl rfl) (.inl rfl) rfl (l_cons (j_var (k := .d) (by decide) rfl (pv 0)) l_nil)⟩
/-! lambda 22 -/
def m_lam22 : ME := (mCall f_shows_least_waits (mCons (mVar 0) (mCons (mC .none) mNil)))
theorem ls_lam22 : LamS tx_22 := lamS_by (by decide +kernel)
theorem b_lam22 (g : Gs P K mg) (F_shows_least_waits : Fn P w K mg base 7 2 .p "shows_least_waits" f_shows_least_waits) : LamBody P w K mg base tx_22 7 m_lam22 := by
  intro A0 outer s H E f c cl A hcl X z
  exact ⟨.p, rfl, j_call F_shows_least_waits z rfl (.inl rfl) (.inl rfl) rfl (l_cons (j_var (k := .d) (by decide) rfl (pv 0)) (l_cons (j_const pe_non .non) l_nil))⟩
/-! lambda 23 -/
def m_lam23 : ME := (mCall f_swapped (mCons (mVar 1) (mCons (mVar 0) (mCons (mVar 2) mNil))))
theorem ls_lam23 : LamS tx_23 := lamS_by (by decide +kernel)
theorem b_lam23 (g : Gs P K mg) (F_swapped : Fn P w K mg base 7 3 .p "swapped" f_swapped) : LamBody P w K mg base tx_23 7 m_lam23 := by
  intro A0 outer s H E f c cl A hcl X z
  exact ⟨.p, rfl, j_call F_swapped z rfl (.inl rfl) (.inl rfl) rfl (l_cons (j_var (k := .d) (by decide) rfl (pv 1)) (l_cons (j_var (k := .d) (by decide) rfl (pv 0)) (l_cons (j_var (k := .d) (by decide) rfl (pv 2)) l_nil)))⟩
/-! the lambdas that are handed to one def: looks -/
def g_looks : Nat → List PyData → List PyData → Res PyData
  | 0 => fun _ _ => .bad
  | 1 => fun _ _ => .bad
  | 2 => fun _ _ => .bad
  | 3 => fun _ _ => .bad
  | 4 => fun _ _ => .bad
  | 5 => fun _ _ => .bad
  | 6 => gLam m_lam6
  | 7 => gLam m_lam7
  | 8 => gLam m_lam8
  | 9 => gLam m_lam9
  | 10 => gLam m_lam10
  | 11 => gLam m_lam11
  | 12 => gLam m_lam12
  | 13 => gLam m_lam13
  | 14 => gLam m_lam14
  | 15 => gLam m_lam15
  | 16 => gLam m_lam16
  | 17 => gLam m_lam17
  | 18 => gLam m_lam18
  | 19 => gLam m_lam19
  | 20 => gLam m_lam20
  | 21 => gLam m_lam21
  | 22 => gLam m_lam22
  | 23 => gLam m_lam23
  | _ => fun _ _ => .bad
theorem L_looks (g : Gs P K mg) (F_is_row : Fn P w K mg base 6 2 .p "is_row" f_is_row) (F_is_plan : Fn P w K mg base 6 2 .p "is_plan" f_is_plan) (F_ends_of : Fn P w K mg base 7 2 .p "ends_of" f_ends_of) (F_late_in : Fn P w K mg base 7 2 .p "late_in" f_late_in) (F_plan_told : Fn P w K mg base 6 1 .p "plan_told" f_plan_told) (F_shows_plan : Fn P w K mg base 6 2 .p "shows_plan" f_shows_plan) (F_most_planned : Fn P w K mg base 6 1 .p "most_planned" f_most_planned) (F_shows_most_planned : Fn P w K mg base 6 2 .p "shows_most_planned" f_shows_most_planned) (F_least_hurry : Fn P w K mg base 6 1 .p "least_hurry" f_least_hurry) (F_row_told : Fn P w K mg base 6 1 .p "row_told" f_row_told) (F_shows_row : Fn P w K mg base 6 2 .p "shows_row" f_shows_row) (F_least_late : Fn P w K mg base 6 1 .p "least_late" f_least_late) (F_shows_least_late : Fn P w K mg base 7 2 .p "shows_least_late" f_shows_least_late) (F_least_greatest : Fn P w K mg base 6 1 .p "least_greatest" f_least_greatest) (F_shows_least_greatest : Fn P w K mg base 7 2 .p "shows_least_greatest" f_shows_least_greatest) (F_least_waits : Fn P w K mg base 6 1 .p "least_waits" f_least_waits) (F_shows_least_waits : Fn P w K mg base 7 2 .p "shows_least_waits" f_shows_least_waits) (F_swapped : Fn P w K mg base 7 3 .p "swapped" f_swapped) : LamAll P w K mg base 8 0 g_looks
  | 0 => lamFn_bad
  | 1 => lamFn_bad
  | 2 => lamFn_bad
  | 3 => lamFn_bad
  | 4 => lamFn_bad
  | 5 => lamFn_bad
  | 6 => (lam_fn (t := tx_6) rfl ls_lam6 rfl (fun cl pm cv ctv us hl => match us, hl with | [], _ => rfl) (b_lam6 g F_is_row)).mono rfl
  | 7 => (lam_fn (t := tx_7) rfl ls_lam7 rfl (fun cl pm cv ctv us hl => match us, hl with | [], _ => rfl) (b_lam7 g F_is_plan)).mono rfl
  | 8 => (lam_fn (t := tx_8) rfl ls_lam8 rfl (fun cl pm cv ctv us hl => match us, hl with | [], _ => rfl) (b_lam8 g F_ends_of)).mono rfl
  | 9 => (lam_fn (t := tx_9) rfl ls_lam9 rfl (fun cl pm cv ctv us hl => match us, hl with | [], _ => rfl) (b_lam9 g F_late_in)).mono rfl
  | 10 => (lam_fn (t := tx_10) rfl ls_lam10 rfl (fun cl pm cv ctv us hl => match us, hl with | [], _ => rfl) (b_lam10 g F_plan_told)).mono rfl
  | 11 => (lam_fn (t := tx_11) rfl ls_lam11 rfl (fun cl pm cv ctv us hl => match us, hl with | [], _ => rfl) (b_lam11 g F_shows_plan)).mono rfl
  | 12 => (lam_fn (t := tx_12) rfl ls_lam12 rfl (fun cl pm cv ctv us hl => match us, hl with | [], _ => rfl) (b_lam12 g F_most_planned)).mono rfl
  | 13 => (lam_fn (t := tx_13) rfl ls_lam13 rfl (fun cl pm cv ctv us hl => match us, hl with | [], _ => rfl) (b_lam13 g F_shows_most_planned)).mono rfl
  | 14 => (lam_fn (t := tx_14) rfl ls_lam14 rfl (fun cl pm cv ctv us hl => match us, hl with | [], _ => rfl) (b_lam14 g F_least_hurry)).mono rfl
  | 15 => (lam_fn (t := tx_15) rfl ls_lam15 rfl (fun cl pm cv ctv us hl => match us, hl with | [], _ => rfl) (b_lam15 g F_row_told)).mono rfl
  | 16 => (lam_fn (t := tx_16) rfl ls_lam16 rfl (fun cl pm cv ctv us hl => match us, hl with | [], _ => rfl) (b_lam16 g F_shows_row)).mono rfl
  | 17 => (lam_fn (t := tx_17) rfl ls_lam17 rfl (fun cl pm cv ctv us hl => match us, hl with | [], _ => rfl) (b_lam17 g F_least_late)).mono rfl
  | 18 => (lam_fn (t := tx_18) rfl ls_lam18 rfl (fun cl pm cv ctv us hl => match us, hl with | [], _ => rfl) (b_lam18 g F_shows_least_late)).mono rfl
  | 19 => (lam_fn (t := tx_19) rfl ls_lam19 rfl (fun cl pm cv ctv us hl => match us, hl with | [], _ => rfl) (b_lam19 g F_least_greatest)).mono rfl
  | 20 => (lam_fn (t := tx_20) rfl ls_lam20 rfl (fun cl pm cv ctv us hl => match us, hl with | [], _ => rfl) (b_lam20 g F_shows_least_greatest)).mono rfl
  | 21 => (lam_fn (t := tx_21) rfl ls_lam21 rfl (fun cl pm cv ctv us hl => match us, hl with | [], _ => rfl) (b_lam21 g F_least_waits)).mono rfl
  | 22 => (lam_fn (t := tx_22) rfl ls_lam22 rfl (fun cl pm cv ctv us hl => match us, hl with | [], _ => rfl) (b_lam22 g F_shows_least_waits)).mono rfl
  | 23 => (lam_fn (t := tx_23) rfl ls_lam23 rfl (fun cl pm cv ctv us hl => match us, hl with | [], _ => rfl) (b_lam23 g F_swapped)).mono rfl
  | _ + 24 => lamFn_bad
/-! _law_caught -/
abbrev st__law_caught : Stmt := top 74
abbrev N__law_caught : List Str := ["call", "caught"]
def m__law_caught : MS := (mSeq (mCaught CS (mCallV g_looks 0 mNil)) (mRet (mC .none)))
def f__law_caught : List PyData → Res PyData := runFn m__law_caught 1
theorem sc__law_caught : FnScope N__law_caught ["call"] (defScope st__law_caught) := ⟨rfl, rfl, rfl, by decide +kernel, rfl, by decide +kernel, by decide +kernel⟩
theorem b__law_caught {fa : Addr} {cdv : Value} (g : Gs P K mg) (L_looks : LamAll P w K mg base 8 0 g_looks)  : Body P w K mg base N__law_caught "_law_caught" (defScope st__law_caught) fa cdv (defBody st__law_caught) 8 1 1 .p m__law_caught := by
  intro A0 outer s H E A X z tk ps
  exact ⟨[], b_cons (s_caught (cs := CS) (i := 1) z rfl rfl rfl sc__law_caught.nd rfl rfl ⟨rfl, by decide, .inl g.v_VanError⟩ g.v_exm (fun _ _ _ _ z => j_callV0 L_looks z rfl rfl (pv 0)) (fun _ _ => rfl)) (b_one (s_ret rfl (j_const pe_non .non)))⟩
/-! _law_is_raised -/
abbrev st__law_is_raised : Stmt := top 75
abbrev N__law_is_raised : List Str := ["call", "due", "caught", "marks"]
def m__law_is_raised : MS := (mSeq (mSet 2 (mCall f__law_caught (mCons (mVar 0) mNil))) (mSeq (mIfS (mTest (mOp1 fIsN (mVar 1)) asB) (mRet (mOp1 fIsN (mVar 2))) mNext) (mSeq (mSet 3 (mDisp [("queue", (mOp1 (fIsE CS "BadQueue") (mVar 2))), ("row", (mOp1 (fIsE CS "BadRow") (mVar 2))), ("all", (mOp1 (fIsE CS "NotAll") (mVar 2))), ("place", (mOp1 (fIsE CS "BadPlace") (mVar 2)))])) (mRet (mAndV (mOp2 fGetD (mVar 3) (mOp2 fIx (mVar 1) (mC (.int 0)))) (mOp2 (gd fEq) (mOp1 fRepr (mOp1 (fVal CS) (mVar 2))) (mOp1 fRepr (mOp2 fIx (mVar 1) (mC (.int 1))))))))))
def f__law_is_raised : List PyData → Res PyData := runFn m__law_is_raised 2
theorem sc__law_is_raised : FnScope N__law_is_raised ["call", "due"] (defScope st__law_is_raised) := ⟨rfl, rfl, rfl, by decide +kernel, rfl, by decide +kernel, by decide +kernel⟩
theorem b__law_is_raised {fa : Addr} {cdv : Value} (g : Gs P K mg) (F__law_caught : Fn P w K mg base 9 1 .p "_law_caught" f__law_caught) : BodyG P w K mg base N__law_is_raised "_law_is_raised" (defScope st__law_is_raised) fa cdv (defBody st__law_is_raised) 9 2 2 m__law_is_raised := by
  intro A0 outer s H E A X gd z tk ps
  exact ⟨[], b_cons (s_set (k := .d) sc__law_is_raised.nd rfl (by first | exact .inl rfl | exact .inr rfl) rfl rfl (fun _ => j_call F__law_caught z rfl (.inl rfl) (.inl rfl) rfl (l_cons (j_var (k := .d) (by decide) rfl (pv 0)) l_nil))) (b_cons (s_if (k_isN (j_var (k := .d) (by decide) rfl (pv 1))) (b_one (s_ret rfl (j_isN (j_var (k := .d) (by decide) rfl (pv 2))))) (b_nil)) (b_cons (s_set (k := .d) sc__law_is_raised.nd rfl (by first | exact .inl rfl | exact .inr rfl) rfl rfl (fun _ => j_disp [("queue", (mOp1 (fIsE CS "BadQueue") (mVar 2))), ("row", (mOp1 (fIsE CS "BadRow") (mVar 2))), ("all", (mOp1 (fIsE CS "NotAll") (mVar 2))), ("place", (mOp1 (fIsE CS "BadPlace") (mVar 2)))] (pps_cons pe_str (j_isE g.i_BadQueue g.b_isinstance (g.e_BadQueue).glo (j_var (k := .d) (by decide) rfl (pv 2))) (pps_cons pe_str (j_isE g.i_BadRow g.b_isinstance (g.e_BadRow).glo (j_var (k := .d) (by decide) rfl (pv 2))) (pps_cons pe_str (j_isE g.i_NotAll g.b_isinstance (g.e_NotAll).glo (j_var (k := .d) (by decide) rfl (pv 2))) (pps_cons pe_str (j_isE g.i_BadPlace g.b_isinstance (g.e_BadPlace).glo (j_var (k := .d) (by decide) rfl (pv 2))) pps_nil)))))) (b_one (s_ret rfl (j_and (fl := .p) (j_dget z rfl (j_var (k := .d) (by decide) rfl (pv 3)) (j_ix (j_var (k := .d) (by decide) rfl (pv 1)) (j_const pe_int (.int _)))) (j_one (j_eq z (j_repr gd z g.b_repr (j_val (cs := CS) g.x_all rfl (j_var (k := .d) (by decide) rfl (pv 2)))) (j_repr gd z g.b_repr (j_ix (j_var (k := .d) (by decide) rfl (pv 1)) (j_const pe_int (.int _)))))))))))⟩
/-! _law_pot -/
abbrev st__law_pot : Stmt := top 70
abbrev N__law_pot : List Str := ["script", "place", "cell", "own", "small"]
def m__law_pot : MS := (mSeq (mSet 2 (mIfE (mTest (mOp2 (gd fLt) (mVar 1) (mOpL fLen (mCons (mVar 0) mNil))) asB) (mOp2 fIx (mVar 0) (mVar 1)) (mOp2 fAdd (mOp2 fAdd (mOp2 fMod (mOpL fInt (mCons (mOpL fSum (mCons (mSlA (mVar 0) mNo (mPart (mC (.int 1)))) mNil)) mNil)) (mC (.int 1000003))) (mOp2 fMulT (mC (.int 4013)) (mVar 1))) (mC (.int 9845))))) (mSeq (mSet 3 (mOp2 fMulT (mOp2 fMod (mOpL fInt (mCons (mOpL fAbs (mCons (mVar 2) mNil)) mNil)) (mOp2 fPow (mOp2 fPow (mC (.int 10)) (mC (.int 60))) (mC (.int 5)))) (mOpL fInt (mCons (mOp2 (gd fGe) (mOpL fAbs (mCons (mVar 2) mNil)) (mOp2 fPow (mC (.int 10)) (mC (.int 18)))) mNil)))) (mSeq (mSet 4 (mOp2 fMod (mOpL fInt (mCons (mVar 2) mNil)) (mC (.int 2305843009213693951)))) (mRet (mLst (mCons (mVar 3) (mCons (mOp2 fMod (mOpL fInt (mCons (mOp2 fAdd (mOp2 fAdd (mOp2 fMulT (mVar 4) (mC (.int 98409))) (mOp2 fMulT (mOp2 fMulT (mC (.int 14635)) (mVar 1)) (mVar 1))) (mC (.int 3413))) mNil)) (mC (.int 2305843009213693921))) (mCons (mC (.int 0)) mNil))))))))
def f__law_pot : List PyData → Res PyData := runFnF m__law_pot 3
theorem sc__law_pot : FnScope N__law_pot ["script", "place"] (defScope st__law_pot) := ⟨rfl, rfl, rfl, by decide +kernel, rfl, by decide +kernel, by decide +kernel⟩
theorem b__law_pot {fa : Addr} {cdv : Value} (g : Gs P K mg)  : Body P w K mg base N__law_pot "_law_pot" (defScope st__law_pot) fa cdv (defBody st__law_pot) 0 2 3 .f m__law_pot := by
  intro A0 outer s H E A X z tk ps
  exact ⟨[], b_cons (s_set (k := .d) sc__law_pot.nd rfl (by first | exact .inl rfl | exact .inr rfl) rfl rfl (fun _ => j_if (k_lt z (j_var (k := .d) (by decide) rfl (pv 1)) (j_len z g.b_len (j_var (k := .d) (by decide) rfl (pv 0)))) (j_ix (j_var (k := .d) (by decide) rfl (pv 0)) (j_var (k := .d) (by decide) rfl (pv 1))) (j_add (j_add (j_mod (j_int g.b_int (j_sum z g.b_sum (j_sl (j_var (k := .d) (by decide) rfl (pv 0)) o_no (o_part (j_const pe_int (.int _)))))) (j_const pe_int (.int _))) (j_mul (j_const pe_int (.int _)) (j_var (k := .d) (by decide) rfl (pv 1)))) (j_const pe_int (.int _))))) (b_cons (s_set (k := .d) sc__law_pot.nd rfl (by first | exact .inl rfl | exact .inr rfl) rfl rfl (fun _ => j_mul (j_mod (j_int g.b_int (j_abs g.b_abs (j_var (k := .d) (by decide) rfl (pv 2)))) (j_pow (j_pow (j_const pe_int (.int _)) (j_const pe_int (.int _))) (j_const pe_int (.int _)))) (j_int g.b_int (j_ge z (j_abs g.b_abs (j_var (k := .d) (by decide) rfl (pv 2))) (j_pow (j_const pe_int (.int _)) (j_const pe_int (.int _))))))) (b_cons (s_set (k := .d) sc__law_pot.nd rfl (by first | exact .inl rfl | exact .inr rfl) rfl rfl (fun _ => j_mod (j_int g.b_int (j_var (k := .d) (by decide) rfl (pv 2))) (j_const pe_int (.int _)))) (b_one (s_ret rfl (j_lst (d_cons (j_var (k := .d) (by decide) rfl (pv 3)) (d_cons (j_mod (j_int g.b_int (j_add (j_add (j_mul (j_var (k := .d) (by decide) rfl (pv 4)) (j_const pe_int (.int _))) (j_mul (j_mul (j_const pe_int (.int _)) (j_var (k := .d) (by decide) rfl (pv 1))) (j_var (k := .d) (by decide) rfl (pv 1)))) (j_const pe_int (.int _)))) (j_const pe_int (.int _))) (d_cons (j_const pe_int (.int _)) d_nil))))))))⟩
/-! _law_cells -/
abbrev st__law_cells : Stmt := top 73
abbrev N__law_cells : List Str := ["script", "limit"]
def m__law_cells : MS := (mRet (mOp1 fListRg (mOpL fMax (mCons (mC (.int 1)) (mCons (mOpL fMin (mCons (mVar 1) (mCons (mOpL fLen (mCons (mVar 0) mNil)) mNil))) mNil)))))
def f__law_cells : List PyData → Res PyData := runFnF m__law_cells 0
theorem sc__law_cells : FnScope N__law_cells ["script", "limit"] (defScope st__law_cells) := ⟨rfl, rfl, rfl, by decide +kernel, rfl, by decide +kernel, by decide +kernel⟩
theorem b__law_cells {fa : Addr} {cdv : Value} (g : Gs P K mg)  : Body P w K mg base N__law_cells "_law_cells" (defScope st__law_cells) fa cdv (defBody st__law_cells) 0 2 0 .f m__law_cells := by
  intro A0 outer s H E A X z tk ps
  exact ⟨[], b_one (s_ret rfl (j_listRg z g.b_list g.b_range (j_max2 z g.b_max (j_const pe_int (.int _)) (j_min2 z g.b_min (j_var (k := .d) (by decide) rfl (pv 1)) (j_len z g.b_len (j_var (k := .d) (by decide) rfl (pv 0)))))))⟩
/-! _law_take -/
abbrev st__law_take : Stmt := top 71
abbrev N__law_take : List Str := ["pot", "upto", "prime", "blend", "digit"]
def m__law_take : MS := (mSeq (mIfS (mTest (mOp2 (gd fGt) (mOp2 fIx (mVar 0) (mC (.int 0))) (mC (.int 0))) asB) (mSeq (mSet 4 (mOp2 fMod (mOpL fInt (mCons (mOp2 fIx (mVar 0) (mC (.int 0))) mNil)) (mVar 1))) (mSeq (mPutM (mOp2 fFdiv (mOp2 fIx (mVar 0) (mC (.int 0))) (mVar 1)) (mC (.int 0))) (mRetM (mVar 4)))) mNext) (mSeq (mPutM (mOp2 fAdd (mOp2 fIx (mVar 0) (mC (.int 2))) (mC (.int 1))) (mC (.int 2))) (mSeq (mSet 2 (mOp2 fIx (mLst (mCons (mC (.int 2147483647)) (mCons (mC (.int 2147483629)) (mCons (mC (.int 2147483587)) (mCons (mC (.int 2147483579)) mNil))))) (mOp2 fMod (mOpL fInt (mCons (mOp2 fIx (mVar 0) (mC (.int 2))) mNil)) (mC (.int 4))))) (mSeq (mSet 3 (mOp2 fMod (mOpL fInt (mCons (mOp2 fPow (mOpL fInt (mCons (mOp2 fAdd (mOp2 fAdd (mOp2 fIx (mVar 0) (mC (.int 1))) (mOp2 fMulT (mOp2 fMulT (mC (.int 145249)) (mOp2 fIx (mVar 0) (mC (.int 2)))) (mOp2 fIx (mVar 0) (mC (.int 2))))) (mC (.int 4113))) mNil)) (mC (.int 3))) mNil)) (mVar 2))) (mRetM (mOp2 fMod (mOpL fInt (mCons (mOp2 fFdiv (mOp2 fMulT (mVar 3) (mOp2 fAdd (mOp2 fMod (mOpL fInt (mCons (mVar 3) mNil)) (mC (.int 10007))) (mOp2 fMulT (mC (.int 3315)) (mOp2 fIx (mVar 0) (mC (.int 2)))))) (mC (.int 307))) mNil)) (mVar 1)))))))
def f__law_take : List PyData → Res PyData := runM m__law_take 3
theorem sc__law_take : FnScope N__law_take ["pot", "upto"] (defScope st__law_take) := ⟨rfl, rfl, rfl, by decide +kernel, rfl, by decide +kernel, by decide +kernel⟩
theorem b__law_take {fa : Addr} {cdv : Value} (g : Gs P K mg)  : BodyM P w K mg base N__law_take "_law_take" (defScope st__law_take) fa cdv (defBody st__law_take) 0 1 3 m__law_take := by
  intro A0 outer s H E A B D X hA hB z tk ps
  exact ⟨[], r_cons (r_if (k_gt z (j_ix (j_var (k := .b) (by decide) rfl (pv 0)) (j_const pe_int (.int _))) (j_const pe_int (.int _))) (r_cons (r_set (k := .d) sc__law_take.nd rfl (by first | exact .inl rfl | exact .inr rfl) rfl (by decide) rfl (fun _ => j_mod (j_int g.b_int (j_ix (j_var (k := .b) (by decide) rfl (pv 0)) (j_const pe_int (.int _)))) (j_var (k := .d) (by decide) rfl (pv 1)))) (r_cons (r_put hA hB rfl rfl (pv 0) (j_fdiv (j_ix (j_var (k := .b) (by decide) rfl (pv 0)) (j_const pe_int (.int _))) (j_var (k := .d) (by decide) rfl (pv 1))) (j_const pe_int (.int _))) (r_one (r_ret rfl (j_var (k := .d) (by decide) rfl (pv 4)))))) (r_nil)) (r_cons (r_put hA hB rfl rfl (pv 0) (j_add (j_ix (j_var (k := .b) (by decide) rfl (pv 0)) (j_const pe_int (.int _))) (j_const pe_int (.int _))) (j_const pe_int (.int _))) (r_cons (r_set (k := .d) sc__law_take.nd rfl (by first | exact .inl rfl | exact .inr rfl) rfl (by decide) rfl (fun _ => j_ix (j_lst (d_cons (j_const pe_int (.int _)) (d_cons (j_const pe_int (.int _)) (d_cons (j_const pe_int (.int _)) (d_cons (j_const pe_int (.int _)) d_nil))))) (j_mod (j_int g.b_int (j_ix (j_var (k := .b) (by decide) rfl (pv 0)) (j_const pe_int (.int _)))) (j_const pe_int (.int _))))) (r_cons (r_set (k := .d) sc__law_take.nd rfl (by first | exact .inl rfl | exact .inr rfl) rfl (by decide) rfl (fun _ => j_mod (j_int g.b_int (j_pow (j_int g.b_int (j_add (j_add (j_ix (j_var (k := .b) (by decide) rfl (pv 0)) (j_const pe_int (.int _))) (j_mul (j_mul (j_const pe_int (.int _)) (j_ix (j_var (k := .b) (by decide) rfl (pv 0)) (j_const pe_int (.int _)))) (j_ix (j_var (k := .b) (by decide) rfl (pv 0)) (j_const pe_int (.int _))))) (j_const pe_int (.int _)))) (j_const pe_int (.int _)))) (j_var (k := .d) (by decide) rfl (pv 2)))) (r_one (r_ret rfl (j_mod (j_int g.b_int (j_fdiv (j_mul (j_var (k := .d) (by decide) rfl (pv 3)) (j_add (j_mod (j_int g.b_int (j_var (k := .d) (by decide) rfl (pv 3))) (j_const pe_int (.int _))) (j_mul (j_const pe_int (.int _)) (j_ix (j_var (k := .b) (by decide) rfl (pv 0)) (j_const pe_int (.int _)))))) (j_const pe_int (.int _)))) (j_var (k := .d) (by decide) rfl (pv 1))))))))⟩
/-! _law_of -/
abbrev st__law_of : Stmt := top 72
abbrev N__law_of : List Str := ["pot", "some"]
def m__law_of : MS := (mRetIxM (mVar 1) f__law_take (mCons (mOpL fLen (mCons (mVar 1) mNil)) mNil))
def f__law_of : List PyData → Res PyData := runM m__law_of 0
theorem sc__law_of : FnScope N__law_of ["pot", "some"] (defScope st__law_of) := ⟨rfl, rfl, rfl, by decide +kernel, rfl, by decide +kernel, by decide +kernel⟩
theorem b__law_of {fa : Addr} {cdv : Value} (g : Gs P K mg) (F__law_take : FnM P w K mg base 1 2 "_law_take" f__law_take) : BodyM P w K mg base N__law_of "_law_of" (defScope st__law_of) fa cdv (defBody st__law_of) 1 1 0 m__law_of := by
  intro A0 outer s H E A B D X hA hB z tk ps
  exact ⟨[], r_one (r_retIxM hA hB rfl rfl F__law_take z rfl rfl rfl (j_var (k := .d) (by decide) rfl (pv 1)) (pv 0) (l_cons (j_len z g.b_len (j_var (k := .d) (by decide) rfl (pv 1))) l_nil))⟩
/-! _law_right -/
abbrev st__law_right : Stmt := top 76
abbrev N__law_right : List Str := ["pot", "good", "odd", "queue", "row", "place", "q", "r", "looks", "a", "p", "look", "due"]
def it__law_right : List Lk := [(6, tx_6, (mVar 6)), (7, tx_7, (mVar 6)), (8, tx_8, (mOp2 fAddL (mVar 6) (mVar 7))), (9, tx_9, (mOp2 fAddL (mVar 6) (mVar 7))), (10, tx_10, (mVar 6)), (11, tx_11, (mVar 6)), (12, tx_12, (mVar 6)), (13, tx_13, (mVar 6)), (14, tx_14, (mVar 6)), (15, tx_15, (mVar 6)), (16, tx_16, (mVar 6)), (17, tx_17, (mVar 6)), (18, tx_18, (mVar 6)), (19, tx_19, (mVar 6)), (20, tx_20, (mVar 6)), (21, tx_21, (mVar 6)), (22, tx_22, (mVar 6)), (23, tx_23, (mOp2 fAddL (mOp2 fAddL (mOp2 fAddL (mVar 6) (mVar 7)) (mVar 9)) (mVar 10)))]
theorem lkOk__law_right : LksOk N__law_right (defScope st__law_right) [.n, .d, .d, .d, .d, .d, .d, .d, .o, .d, .d, .d, .d] 8 11 12 it__law_right := ⟨⟨rfl, by decide +kernel, fun env y => by simp [mVar, mOp2, Res.bind, Res.opt, List.getElem?_set]⟩, ⟨⟨rfl, by decide +kernel, fun env y => by simp [mVar, mOp2, Res.bind, Res.opt, List.getElem?_set]⟩, ⟨⟨rfl, by decide +kernel, fun env y => by simp [mVar, mOp2, Res.bind, Res.opt, List.getElem?_set]⟩, ⟨⟨rfl, by decide +kernel, fun env y => by simp [mVar, mOp2, Res.bind, Res.opt, List.getElem?_set]⟩, ⟨⟨rfl, by decide +kernel, fun env y => by simp [mVar, mOp2, Res.bind, Res.opt, List.getElem?_set]⟩, ⟨⟨rfl, by decide +kernel, fun env y => by simp [mVar, mOp2, Res.bind, Res.opt, List.getElem?_set]⟩, ⟨⟨rfl, by decide +kernel, fun env y => by simp [mVar, mOp2, Res.bind, Res.opt, List.getElem?_set]⟩, ⟨⟨rfl, by decide +kernel, fun env y => by simp [mVar, mOp2, Res.bind, Res.opt, List.getElem?_set]⟩, ⟨⟨rfl, by decide +kernel, fun env y => by simp [mVar, mOp2, Res.bind, Res.opt, List.getElem?_set]⟩, ⟨⟨rfl, by decide +kernel, fun env y => by simp [mVar, mOp2, Res.bind, Res.opt, List.getElem?_set]⟩, ⟨⟨rfl, by decide +kernel, fun env y => by simp [mVar, mOp2, Res.bind, Res.opt, List.getElem?_set]⟩, ⟨⟨rfl, by decide +kernel, fun env y => by simp [mVar, mOp2, Res.bind, Res.opt, List.getElem?_set]⟩, ⟨⟨rfl, by decide +kernel, fun env y => by simp [mVar, mOp2, Res.bind, Res.opt, List.getElem?_set]⟩, ⟨⟨rfl, by decide +kernel, fun env y => by simp [mVar, mOp2, Res.bind, Res.opt, List.getElem?_set]⟩, ⟨⟨rfl, by decide +kernel, fun env y => by simp [mVar, mOp2, Res.bind, Res.opt, List.getElem?_set]⟩, ⟨⟨rfl, by decide +kernel, fun env y => by simp [mVar, mOp2, Res.bind, Res.opt, List.getElem?_set]⟩, ⟨⟨rfl, by decide +kernel, fun env y => by simp [mVar, mOp2, Res.bind, Res.opt, List.getElem?_set]⟩, ⟨⟨rfl, by decide +kernel, fun env y => by simp [mVar, mOp2, Res.bind, Res.opt, List.getElem?_set]⟩, trivial⟩⟩⟩⟩⟩⟩⟩⟩⟩⟩⟩⟩⟩⟩⟩⟩⟩⟩
def m__law_right : MS := (mSeq (mSet 1 (mTup (mCons (mTup (mCons (mC (.int 0)) (mCons (mC (.int 3)) (mCons (mC (.int 9)) mNil)))) (mCons (mTup (mCons (mC (.int 1)) (mCons (mC (.int 1)) (mCons (mC (.int 2)) mNil)))) (mCons (mTup (mCons (mC (.int 0)) (mCons (mC (.int 2)) (mCons (mC (.int 6)) mNil)))) mNil))))) (mSeq (mSet 2 (mLst (mCons (mC .none) (mCons (mOpL fList (mCons (mVar 1) mNil)) (mCons (mTup (mCons (mTup (mCons (mC (.int 0)) (mCons (mC (.int 7)) (mCons (mC (.int 9)) mNil)))) mNil)) (mCons (mTup (mCons (mTup (mCons (mC (.int 0)) (mCons (mC (.int 0)) (mCons (mC (.int 9)) mNil)))) mNil)) (mCons (mTup (mCons (mTup (mCons (mC (.int 21)) (mCons (mC (.int 1)) (mCons (mC (.int 25)) mNil)))) mNil)) (mCons (mTup (mCons (mTup (mCons (mC (.int 3)) (mCons (mC (.int 1)) (mCons (mC (.int 3)) mNil)))) mNil)) (mCons (mTup (mCons (mTup (mCons (mC (.int 0)) (mCons (mC (.int 1)) (mCons (mC (.int 31)) mNil)))) mNil)) (mCons (mTup (mCons (mTup (mCons (mC (.int 0)) (mCons (mC (.int 1)) mNil))) mNil)) (mCons (mTup (mCons (mTup (mCons (mC (.bool true)) (mCons (mC (.int 1)) (mCons (mC (.int 2)) mNil)))) mNil)) (mCons (mOp2 fAdd (mSlA (mVar 1) mNo (mPart (mC (.int 2)))) (mTup (mCons (mLst (mCons (mC (.int 0)) (mCons (mC (.int 2)) (mCons (mC (.int 6)) mNil)))) mNil))) (mCons (mOp2 fMulT (mVar 1) (mC (.int 3))) mNil))))))))))))) (mSeq (mSetM 3 f__law_of (mCons (mOp2 fAddL (mOp2 fMulL (mLst (mCons (mVar 1) mNil)) (mC (.int 6))) (mVar 2)) mNil)) (mSeq (mSetM 4 f__law_of (mCons (mOp2 fAddL (mOp2 fMulL (mLst (mCons (mTup (mCons (mC (.int 0)) (mCons (mC (.int 1)) (mCons (mC (.int 2)) mNil)))) mNil)) (mC (.int 4))) (mLst (mCons (mTup (mCons (mC (.int 2)) (mCons (mC (.int 0)) mNil))) (mCons (mTup mNil) (mCons (mC .none) (mCons (mTup (mCons (mC (.int 0)) (mCons (mC (.int 0)) (mCons (mC (.int 1)) mNil)))) (mCons (mTup (mCons (mC (.int 3)) mNil)) (mCons (mLst (mCons (mC (.int 0)) (mCons (mC (.int 1)) (mCons (mC (.int 2)) mNil)))) (mCons (mTup (mCons (mC (.bool true)) (mCons (mC (.int 0)) mNil))) (mCons (mTup (mCons (mOp1 fNeg (mC (.int 1))) (mCons (mC (.int 0)) mNil))) mNil)))))))))) mNil)) (mSeq (mSetM 5 f__law_of (mCons (mOp2 fAddL (mOp2 fMulL (mLst (mCons (mC (.int 1)) mNil)) (mC (.int 4))) (mLst (mCons (mC .none) (mCons (mOp1 fNeg (mC (.int 1))) (mCons (mC (.int 2)) (mCons (mC (.bool true)) mNil)))))) mNil)) (mSeq (mSet 6 (mIfE (mTest (mOp2 (gd fNe) (mOp1 fRepr (mVar 3)) (mOp1 fRepr (mVar 1))) asB) (mLst (mCons (mTup (mCons (mC (.str "queue")) (mCons (mVar 3) mNil))) mNil)) (mLst mNil))) (mSeq (mSet 7 (mIfE (mTest (mOp2 (gd fNotIn) (mOp1 fRepr (mVar 4)) (mTup (mCons (mOp1 fRepr (mTup (mCons (mC (.int 0)) (mCons (mC (.int 1)) (mCons (mC (.int 2)) mNil))))) (mCons (mOp1 fRepr (mTup (mCons (mC (.int 2)) (mCons (mC (.int 0)) mNil)))) (mCons (mOp1 fRepr (mTup mNil)) mNil))))) asB) (mLst (mCons (mTup (mCons (mC (.str "row")) (mCons (mVar 4) mNil))) mNil)) (mLst mNil))) (mSeq (mPar2 9 10 (mIfE (mTest (mOp2 (gd fIn) (mOp1 fRepr (mVar 4)) (mTup (mCons (mOp1 fRepr (mTup (mCons (mC (.int 2)) (mCons (mC (.int 0)) mNil)))) (mCons (mOp1 fRepr (mTup mNil)) mNil)))) asB) (mLst (mCons (mTup (mCons (mC (.str "all")) (mCons (mVar 4) mNil))) mNil)) (mLst mNil)) (mIfE (mTest (mOp2 (gd fNe) (mOp1 fRepr (mVar 5)) (mC (.str "1"))) asB) (mLst (mCons (mTup (mCons (mC (.str "place")) (mCons (mVar 5) mNil))) mNil)) (mLst mNil))) (mSee N__law_right f__law_is_raised it__law_right)))))))))
def f__law_right : List PyData → Res PyData := runM m__law_right 12
theorem sc__law_right : FnScope N__law_right ["pot"] (defScope st__law_right) := ⟨rfl, rfl, rfl, by decide +kernel, rfl, by decide +kernel, by decide +kernel⟩
theorem b__law_right {fa : Addr} {cdv : Value} (g : Gs P K mg) (M : Mk base mg "_law_right.<locals>.<lambda>" cdv) (F__law_of : FnM P w K mg base 2 2 "_law_of" f__law_of) (F__law_is_raised : FnG P w K mg base 10 2 .p "_law_is_raised" f__law_is_raised) : BodyMG P w K mg base N__law_right "_law_right" (defScope st__law_right) fa cdv (defBody st__law_right) 10 0 12 m__law_right := by
  intro A0 outer s H E A B D X hA hB gd z tk ps
  exact ⟨[], r_cons (r_set (k := .d) sc__law_right.nd rfl (by first | exact .inl rfl | exact .inr rfl) rfl (by decide) rfl (fun _ => j_tup ⟨by decide, by decide⟩ (d_cons (j_tup ⟨by decide, by decide⟩ (d_cons (j_const pe_int (.int _)) (d_cons (j_const pe_int (.int _)) (d_cons (j_const pe_int (.int _)) d_nil)))) (d_cons (j_tup ⟨by decide, by decide⟩ (d_cons (j_const pe_int (.int _)) (d_cons (j_const pe_int (.int _)) (d_cons (j_const pe_int (.int _)) d_nil)))) (d_cons (j_tup ⟨by decide, by decide⟩ (d_cons (j_const pe_int (.int _)) (d_cons (j_const pe_int (.int _)) (d_cons (j_const pe_int (.int _)) d_nil)))) d_nil))))) (r_cons (r_set (k := .o) sc__law_right.nd rfl (by first | exact .inl rfl | exact .inr rfl) rfl (by decide) rfl (fun _ => j_lst (d_cons (j_const pe_non .non) (d_cons (j_list g.b_list (j_var (k := .d) (by decide) rfl (pv 1)) rfl) (d_cons (j_tup ⟨by decide, by decide⟩ (d_cons (j_tup ⟨by decide, by decide⟩ (d_cons (j_const pe_int (.int _)) (d_cons (j_const pe_int (.int _)) (d_cons (j_const pe_int (.int _)) d_nil)))) d_nil)) (d_cons (j_tup ⟨by decide, by decide⟩ (d_cons (j_tup ⟨by decide, by decide⟩ (d_cons (j_const pe_int (.int _)) (d_cons (j_const pe_int (.int _)) (d_cons (j_const pe_int (.int _)) d_nil)))) d_nil)) (d_cons (j_tup ⟨by decide, by decide⟩ (d_cons (j_tup ⟨by decide, by decide⟩ (d_cons (j_const pe_int (.int _)) (d_cons (j_const pe_int (.int _)) (d_cons (j_const pe_int (.int _)) d_nil)))) d_nil)) (d_cons (j_tup ⟨by decide, by decide⟩ (d_cons (j_tup ⟨by decide, by decide⟩ (d_cons (j_const pe_int (.int _)) (d_cons (j_const pe_int (.int _)) (d_cons (j_const pe_int (.int _)) d_nil)))) d_nil)) (d_cons (j_tup ⟨by decide, by decide⟩ (d_cons (j_tup ⟨by decide, by decide⟩ (d_cons (j_const pe_int (.int _)) (d_cons (j_const pe_int (.int _)) (d_cons (j_const pe_int (.int _)) d_nil)))) d_nil)) (d_cons (j_tup ⟨by decide, by decide⟩ (d_cons (j_tup ⟨by decide, by decide⟩ (d_cons (j_const pe_int (.int _)) (d_cons (j_const pe_int (.int _)) d_nil))) d_nil)) (d_cons (j_tup ⟨by decide, by decide⟩ (d_cons (j_tup ⟨by decide, by decide⟩ (d_cons (j_const pe_bl (.bl _)) (d_cons (j_const pe_int (.int _)) (d_cons (j_const pe_int (.int _)) d_nil)))) d_nil)) (d_cons (j_add (j_sl (j_var (k := .d) (by decide) rfl (pv 1)) o_no (o_part (j_const pe_int (.int _)))) (j_tup ⟨by decide, by decide⟩ (d_cons (j_lst (d_cons (j_const pe_int (.int _)) (d_cons (j_const pe_int (.int _)) (d_cons (j_const pe_int (.int _)) d_nil)))) d_nil))) (d_cons (j_mul (j_var (k := .d) (by decide) rfl (pv 1)) (j_const pe_int (.int _))) d_nil))))))))))))) (r_cons (r_setM hA hB rfl rfl F__law_of z rfl sc__law_right.nd rfl (by first | exact .inl rfl | exact .inr rfl) rfl (by decide) rfl rfl (pv 0) (l_cons (j_addL rfl rfl (j_mulL (j_lst (d_cons (j_var (k := .d) (by decide) rfl (pv 1)) d_nil)) (j_const pe_int (.int _))) (j_var (k := .o) (by decide) rfl (pv 2))) l_nil)) (r_cons (r_setM hA hB rfl rfl F__law_of z rfl sc__law_right.nd rfl (by first | exact .inl rfl | exact .inr rfl) rfl (by decide) rfl rfl (pv 0) (l_cons (j_addL rfl rfl (j_mulL (j_lst (d_cons (j_tup ⟨by decide, by decide⟩ (d_cons (j_const pe_int (.int _)) (d_cons (j_const pe_int (.int _)) (d_cons (j_const pe_int (.int _)) d_nil)))) d_nil)) (j_const pe_int (.int _))) (j_lst (d_cons (j_tup ⟨by decide, by decide⟩ (d_cons (j_const pe_int (.int _)) (d_cons (j_const pe_int (.int _)) d_nil))) (d_cons (j_tup ⟨by decide, by decide⟩ d_nil) (d_cons (j_const pe_non .non) (d_cons (j_tup ⟨by decide, by decide⟩ (d_cons (j_const pe_int (.int _)) (d_cons (j_const pe_int (.int _)) (d_cons (j_const pe_int (.int _)) d_nil)))) (d_cons (j_tup ⟨by decide, by decide⟩ (d_cons (j_const pe_int (.int _)) d_nil)) (d_cons (j_lst (d_cons (j_const pe_int (.int _)) (d_cons (j_const pe_int (.int _)) (d_cons (j_const pe_int (.int _)) d_nil)))) (d_cons (j_tup ⟨by decide, by decide⟩ (d_cons (j_const pe_bl (.bl _)) (d_cons (j_const pe_int (.int _)) d_nil))) (d_cons (j_tup ⟨by decide, by decide⟩ (d_cons (j_neg (j_const pe_int (.int _))) (d_cons (j_const pe_int (.int _)) d_nil))) d_nil)))))))))) l_nil)) (r_cons (r_setM hA hB rfl rfl F__law_of z rfl sc__law_right.nd rfl (by first | exact .inl rfl | exact .inr rfl) rfl (by decide) rfl rfl (pv 0) (l_cons (j_addL rfl rfl (j_mulL (j_lst (d_cons (j_const pe_int (.int _)) d_nil)) (j_const pe_int (.int _))) (j_lst (d_cons (j_const pe_non .non) (d_cons (j_neg (j_const pe_int (.int _))) (d_cons (j_const pe_int (.int _)) (d_cons (j_const pe_bl (.bl _)) d_nil)))))) l_nil)) (r_cons (r_set (k := .o) sc__law_right.nd rfl (by first | exact .inl rfl | exact .inr rfl) rfl (by decide) rfl (fun _ => j_if (k_ne z (j_repr gd z g.b_repr (j_var (k := .d) (by decide) rfl (pv 3))) (j_repr gd z g.b_repr (j_var (k := .d) (by decide) rfl (pv 1)))) (j_lst (d_cons (j_tup ⟨by decide, by decide⟩ (d_cons (j_const pe_str (.str _)) (d_cons (j_var (k := .d) (by decide) rfl (pv 3)) d_nil))) d_nil)) (j_lst d_nil))) (r_cons (r_set (k := .o) sc__law_right.nd rfl (by first | exact .inl rfl | exact .inr rfl) rfl (by decide) rfl (fun _ => j_if (k_notIn z (j_repr gd z g.b_repr (j_var (k := .d) (by decide) rfl (pv 4))) (j_tup ⟨by decide, by decide⟩ (d_cons (j_repr gd z g.b_repr (j_tup ⟨by decide, by decide⟩ (d_cons (j_const pe_int (.int _)) (d_cons (j_const pe_int (.int _)) (d_cons (j_const pe_int (.int _)) d_nil))))) (d_cons (j_repr gd z g.b_repr (j_tup ⟨by decide, by decide⟩ (d_cons (j_const pe_int (.int _)) (d_cons (j_const pe_int (.int _)) d_nil)))) (d_cons (j_repr gd z g.b_repr (j_tup ⟨by decide, by decide⟩ d_nil)) d_nil))))) (j_lst (d_cons (j_tup ⟨by decide, by decide⟩ (d_cons (j_const pe_str (.str _)) (d_cons (j_var (k := .d) (by decide) rfl (pv 4)) d_nil))) d_nil)) (j_lst d_nil))) (r_cons (r_par (ki := .o) (kj := .o) z.calm sc__law_right.nd rfl rfl (by decide) (by decide) (by decide) rfl rfl rfl rfl rfl rfl rfl (fun _ => j_if (k_in z (j_repr gd z g.b_repr (j_var (k := .d) (by decide) rfl (pv 4))) (j_tup ⟨by decide, by decide⟩ (d_cons (j_repr gd z g.b_repr (j_tup ⟨by decide, by decide⟩ (d_cons (j_const pe_int (.int _)) (d_cons (j_const pe_int (.int _)) d_nil)))) (d_cons (j_repr gd z g.b_repr (j_tup ⟨by decide, by decide⟩ d_nil)) d_nil)))) (j_lst (d_cons (j_tup ⟨by decide, by decide⟩ (d_cons (j_const pe_str (.str _)) (d_cons (j_var (k := .d) (by decide) rfl (pv 4)) d_nil))) d_nil)) (j_lst d_nil)) (fun _ _ => j_if (k_ne z (j_repr gd z g.b_repr (j_var (k := .d) (by decide) rfl (pv 5))) (j_const pe_str (.str _))) (j_lst (d_cons (j_tup ⟨by decide, by decide⟩ (d_cons (j_const pe_str (.str _)) (d_cons (j_var (k := .d) (by decide) rfl (pv 5)) d_nil))) d_nil)) (j_lst d_nil))) (rb_weak (Γ2 := [.b, .d, .d, .d, .d, .d, .d, .d, .n, .d, .d, .n, .n]) rfl (rb_see (cells := X.env.cells) (N := N__law_right) (sc := X.env.scope) (Γ1 := [.n, .d, .d, .d, .d, .d, .d, .d, .o, .d, .d, .d, .d]) (il := 8) (ll := 11) (ld := 12) (f := f__law_is_raised) (items := it__law_right) (r_tail (Γ' := []) hA (fun _ => b_cons (s_set (k := .o) sc__law_right.nd rfl (by first | exact .inl rfl | exact .inr rfl) rfl rfl (fun _ => j_lst (d_cons (j_tup ⟨by decide, by decide⟩ (d_cons (j_fnc (j := 6) (t := tx_6) M rfl rfl rfl rfl (by decide +kernel) rfl) (d_cons (j_var (k := .d) (by decide) rfl (pv 6)) d_nil))) d_nil))) (b_cons (s_app (.inl rfl) rfl (pv 8) (j_tup ⟨by decide, by decide⟩ (d_cons (j_fnc (j := 7) (t := tx_7) M rfl rfl rfl rfl (by decide +kernel) rfl) (d_cons (j_var (k := .d) (by decide) rfl (pv 6)) d_nil)))) (b_cons (s_app (.inl rfl) rfl (pv 8) (j_tup ⟨by decide, by decide⟩ (d_cons (j_fnc (j := 8) (t := tx_8) M rfl rfl rfl rfl (by decide +kernel) rfl) (d_cons (j_addL rfl rfl (j_var (k := .d) (by decide) rfl (pv 6)) (j_var (k := .d) (by decide) rfl (pv 7))) d_nil)))) (b_cons (s_app (.inl rfl) rfl (pv 8) (j_tup ⟨by decide, by decide⟩ (d_cons (j_fnc (j := 9) (t := tx_9) M rfl rfl rfl rfl (by decide +kernel) rfl) (d_cons (j_addL rfl rfl (j_var (k := .d) (by decide) rfl (pv 6)) (j_var (k := .d) (by decide) rfl (pv 7))) d_nil)))) (b_cons (s_app (.inl rfl) rfl (pv 8) (j_tup ⟨by decide, by decide⟩ (d_cons (j_fnc (j := 10) (t := tx_10) M rfl rfl rfl rfl (by decide +kernel) rfl) (d_cons (j_var (k := .d) (by decide) rfl (pv 6)) d_nil)))) (b_cons (s_app (.inl rfl) rfl (pv 8) (j_tup ⟨by decide, by decide⟩ (d_cons (j_fnc (j := 11) (t := tx_11) M rfl rfl rfl rfl (by decide +kernel) rfl) (d_cons (j_var (k := .d) (by decide) rfl (pv 6)) d_nil)))) (b_cons (s_app (.inl rfl) rfl (pv 8) (j_tup ⟨by decide, by decide⟩ (d_cons (j_fnc (j := 12) (t := tx_12) M rfl rfl rfl rfl (by decide +kernel) rfl) (d_cons (j_var (k := .d) (by decide) rfl (pv 6)) d_nil)))) (b_cons (s_app (.inl rfl) rfl (pv 8) (j_tup ⟨by decide, by decide⟩ (d_cons (j_fnc (j := 13) (t := tx_13) M rfl rfl rfl rfl (by decide +kernel) rfl) (d_cons (j_var (k := .d) (by decide) rfl (pv 6)) d_nil)))) (b_cons (s_app (.inl rfl) rfl (pv 8) (j_tup ⟨by decide, by decide⟩ (d_cons (j_fnc (j := 14) (t := tx_14) M rfl rfl rfl rfl (by decide +kernel) rfl) (d_cons (j_var (k := .d) (by decide) rfl (pv 6)) d_nil)))) (b_cons (s_app (.inl rfl) rfl (pv 8) (j_tup ⟨by decide, by decide⟩ (d_cons (j_fnc (j := 15) (t := tx_15) M rfl rfl rfl rfl (by decide +kernel) rfl) (d_cons (j_var (k := .d) (by decide) rfl (pv 6)) d_nil)))) (b_cons (s_app (.inl rfl) rfl (pv 8) (j_tup ⟨by decide, by decide⟩ (d_cons (j_fnc (j := 16) (t := tx_16) M rfl rfl rfl rfl (by decide +kernel) rfl) (d_cons (j_var (k := .d) (by decide) rfl (pv 6)) d_nil)))) (b_cons (s_app (.inl rfl) rfl (pv 8) (j_tup ⟨by decide, by decide⟩ (d_cons (j_fnc (j := 17) (t := tx_17) M rfl rfl rfl rfl (by decide +kernel) rfl) (d_cons (j_var (k := .d) (by decide) rfl (pv 6)) d_nil)))) (b_cons (s_app (.inl rfl) rfl (pv 8) (j_tup ⟨by decide, by decide⟩ (d_cons (j_fnc (j := 18) (t := tx_18) M rfl rfl rfl rfl (by decide +kernel) rfl) (d_cons (j_var (k := .d) (by decide) rfl (pv 6)) d_nil)))) (b_cons (s_app (.inl rfl) rfl (pv 8) (j_tup ⟨by decide, by decide⟩ (d_cons (j_fnc (j := 19) (t := tx_19) M rfl rfl rfl rfl (by decide +kernel) rfl) (d_cons (j_var (k := .d) (by decide) rfl (pv 6)) d_nil)))) (b_cons (s_app (.inl rfl) rfl (pv 8) (j_tup ⟨by decide, by decide⟩ (d_cons (j_fnc (j := 20) (t := tx_20) M rfl rfl rfl rfl (by decide +kernel) rfl) (d_cons (j_var (k := .d) (by decide) rfl (pv 6)) d_nil)))) (b_cons (s_app (.inl rfl) rfl (pv 8) (j_tup ⟨by decide, by decide⟩ (d_cons (j_fnc (j := 21) (t := tx_21) M rfl rfl rfl rfl (by decide +kernel) rfl) (d_cons (j_var (k := .d) (by decide) rfl (pv 6)) d_nil)))) (b_cons (s_app (.inl rfl) rfl (pv 8) (j_tup ⟨by decide, by decide⟩ (d_cons (j_fnc (j := 22) (t := tx_22) M rfl rfl rfl rfl (by decide +kernel) rfl) (d_cons (j_var (k := .d) (by decide) rfl (pv 6)) d_nil)))) (b_cons (s_app (.inl rfl) rfl (pv 8) (j_tup ⟨by decide, by decide⟩ (d_cons (j_fnc (j := 23) (t := tx_23) M rfl rfl rfl rfl (by decide +kernel) rfl) (d_cons (j_addL rfl rfl (j_addL rfl rfl (j_addL rfl rfl (j_var (k := .d) (by decide) rfl (pv 6)) (j_var (k := .d) (by decide) rfl (pv 7))) (j_var (k := .d) (by decide) rfl (pv 9))) (j_var (k := .d) (by decide) rfl (pv 10))) d_nil)))) (b_one (s_ret rfl (j_all z g.b_all (j_lcT (own := [("look", 11), ("due", 12)]) z sc__law_right.nd (i_seq (fun _ => by contradiction) (j_var (k := .o) (by decide) rfl (pv 8))) (blkOk_by rfl) rfl (fun _ _ _ _ _ _ => g_tup z.blk.calm (g_cons ⟨by decide, by decide⟩ (g_name (k := .d) sc__law_right.nd rfl (by first | exact .inl rfl | exact .inr rfl) rfl rfl (by decide) (by decide)) (g_cons ⟨by decide, by decide⟩ (g_name (k := .d) sc__law_right.nd rfl (by first | exact .inl rfl | exact .inr rfl) rfl rfl (by decide) (by decide)) g_nil))) (fun _ _ _ _ _ _ _ bk => j_look (il := 11) (fun _ => rfl) bk F__law_is_raised z gd rfl rfl (pv 11) (fun _ => j_ix (j_addL rfl rfl (j_var (k := .d) (by decide) rfl (pv 12)) (j_lst (d_cons (j_const pe_non .non) d_nil))) (j_const pe_int (.int _))))))))))))))))))))))))))) (by unfold it__law_right; simp) (lkOk__law_right) rfl (by decide) (by decide) (by decide) (by decide) (by decide) (by decide))))))))))⟩
/-! law -/
abbrev st_law : Stmt := top 77
abbrev N_law : List Str := ["script", "place", "pot", "lap"]
def m_law : MS := (mSeq (mFor (mItems (mCall f__law_cells (mCons (mVar 0) (mCons (mC (.int 3)) mNil)))) (gSet 1) (mSeq (mSet 2 (mCall f__law_pot (mCons (mVar 0) (mCons (mVar 1) mNil)))) (mSeq (mLaps 6 2 f__law_right) mNext))) (mRet (mC (.bool true))))
def f_law : List PyData → Res PyData := runFn m_law 3
theorem sc_law : FnScope N_law ["script"] (defScope st_law) := ⟨rfl, rfl, rfl, by decide +kernel, rfl, by decide +kernel, by decide +kernel⟩
theorem b_law {fa : Addr} {cdv : Value} (g : Gs P K mg) (F__law_cells : Fn P w K mg base 1 2 .f "_law_cells" f__law_cells) (F__law_pot : Fn P w K mg base 1 2 .f "_law_pot" f__law_pot) (F__law_right : FnMG P w K mg base 11 1 "_law_right" f__law_right) : BodyG P w K mg base N_law "law" (defScope st_law) fa cdv (defBody st_law) 11 1 3 m_law := by
  intro A0 outer s H E A X gd z tk ps
  exact ⟨[], b_cons (s_for (vs := [1]) ps z.calm (i_seq (fun _ => rfl) (j_call F__law_cells z rfl (.inl rfl) (.inr rfl) rfl (l_cons (j_var (k := .d) (by decide) rfl (pv 0)) (l_cons (j_const pe_int (.int _)) l_nil)))) (g_name (k := .d) sc_law.nd rfl (by first | exact .inl rfl | exact .inr rfl) rfl rfl (by decide) (by decide)) (b_cons (s_set (k := .o) sc_law.nd rfl (by first | exact .inl rfl | exact .inr rfl) rfl rfl (fun _ => j_call F__law_pot z rfl (.inl rfl) (.inr rfl) rfl (l_cons (j_var (k := .d) (by decide) rfl (pv 0)) (l_cons (j_var (k := .d) (by decide) rfl (pv 1)) l_nil)))) (b_cons (s_laps (il := 3) z gd F__law_right rfl sc_law.nd rfl (by decide) rfl rfl rfl rfl g.b_all g.b_range (blkOk_by rfl) (fun _ _ _ _ _ => pg_name sc_law.nd rfl (by first | exact .inl rfl | exact .inr rfl) (.inr rfl)) (fun _ _ _ _ _ => pv 2) (fun _ _ _ _ _ => by rfl)) (b_nil' (Γ' := [.d, .n, .n, .n]) rfl)))) (b_one (s_ret rfl (j_const pe_bl (.bl _))))⟩
end
end PG
set_option maxHeartbeats 2000000
/-! PH 0: the end of a law whose defs ask for repr. -/
namespace PD
open PySem PySem.Spec PyProof.Rows L2 LamX
/-- the law's call, its promise made where nothing is being shown -/
theorem law_callG {P : Program} {w : World} {K : PySem.W.Frag} {mg mb : Str → Option Value} {CX : CXT} {k : Nat} {fa a : Addr} {cs : List (Addr × Addr)} {fd : FuncData} {x : Str} {sp : Sp} {s₁ : Shared} {vs : List Value} {ns : List Int}
    (kin : K.In s₁.heap) (nsG : s₁.heap.Ns mainGlobals mg) (hb : s₁.heap.Ns builtinsNs mb) (bbs : ∀ x : Str, x ≠ "__name__" → mb x = bootBuiltins x) (limN : s₁.heap.NoLimit) (gen0 : s₁.gens = #[])
    (tabs0 : ∀ p ∈ cs, s₁.heap.get? p.2 = some { cls := .none, data := .fields #[] }) (offT : ∀ p ∈ cs, K.lookup p.2 = none) (cds : ∀ p ∈ cs, PySem.W.CodeHd s₁.heap p.1 p.2)
    (bmn : ∃ (bm : Addr) (ob : Obj), mg "__builtins__" = some (.ref bm) ∧ bm ≠ builtinsNs ∧ s₁.heap.get? bm = some ob ∧ ob.cls = .type "module" ∧ ob.dict = some builtinsNs ∧ ob.data = .plain)
    (ha : s₁.heap.get? a = some { cls := .type "list", data := .seq vs.toArray }) (intsH : IntsAre vs ns) (hl : ns.length ≤ sizeLine) (hr : Room k callerA)
    (F : ∀ base : Heap, K.In base → base.Ns mainGlobals mg → (∀ p ∈ cs, TabB base mg p.1 p.2) → FnOkG P w K mg base CX k fa fd [x] sp) (bnd : ∀ (s : Shared) (u : Value), BindsTo s fd ⟨[u], []⟩ [(x, u)])
    (spH : ∀ H : Hp, (∀ p ∈ cs, H p.2 = some (.tbl #[])) → SqL K H a (ns.map V.int) → sp [.ref a] H (fun v _ => v = .bl true) fun _ _ _ => False)
    (cxF : ∀ H e s', CX [] H s₁ (fun _ _ _ => False) e s' → False) :
    codeAny (model P w) callerA (.call (.ref fa) ⟨[.ref a], []⟩) (fun r s' => r = .ok (.ret (.bool true)) ∧ OldK s₁.heap s'.heap ∧ s'.os = s₁.os ∧ AllBare s'.gens) s₁ := by
  have valsA := vals_ints intsH
  have lenIs := intsH.length
  have tabAt : ∀ b : Addr, b ∈ cs.map (·.2) → s₁.heap.get? b = some { cls := .none, data := .fields #[] } := fun b hb => by
    obtain ⟨p, hp, e⟩ := List.mem_map.mp hb
    rw [← e]
    exact tabs0 p hp
  have aOff : a ∉ cs.map (·.2) := fun z => by
    have q := tabAt a z
    rw [ha] at q
    have z' : Data.seq vs.toArray _ = Data.fields #[] := congrArg Obj.data (Option.some.inj q)
    cases z'
  have inT : ∀ p ∈ cs, p.2 ∈ cs.map (·.2) := fun p hp => List.mem_map.mpr ⟨p, hp, rfl⟩
  -- from an abstract heap in which nothing but the script and the tables may be tracked
  have heart : ∀ H : Hp, (∀ p ∈ cs, H p.2 = some (.tbl #[])) → (∀ b, H b = none ∨ b ∈ cs.map (·.2) ∨ ∃ o xs, H b = some (.frz o (.lst xs))) → SqL K H a (ns.map V.int) → HOk P w H s₁.heap → (∀ b, H b ≠ none → b = a ∨ b ∈ cs.map (·.2)) → (H a ≠ none → K.lookup a = none) →
      codeAny (model P w) callerA (.call (.ref fa) ⟨[.ref a], []⟩) (fun r s' => r = .ok (.ret (.bool true)) ∧ OldK s₁.heap s'.heap ∧ s'.os = s₁.os ∧ AllBare s'.gens) s₁ := by
    intro H tabH kindH sqA hok onlyA lkA
    have inB : ∀ {b : Addr} {o : Obj}, s₁.heap.get? b = some o → H b = none → (hidT s₁.heap H).get? b = some o := fun e n => hidT_get e n
    have clear : ∀ {b : Addr} {o : Obj}, s₁.heap.get? b = some o → (∀ vs n, o.data ≠ .seq vs n) → o.data ≠ .fields #[] → H b = none := fun {b o} e h1 h2 => by
      cases q : H b with
      | none => rfl
      | some u =>
        rcases onlyA b (by rw [q]; simp) with e' | e'
        · rw [e', ha] at e
          cases e
          exact (h1 _ _ rfl).elim
        · rw [tabAt b e'] at e
          cases e
          exact (h2 rfl).elim
    have clearD : ∀ {b : Addr} {o : Obj} {es : Array DictEntry} {ep : Nat}, s₁.heap.get? b = some o → o.data = .dict es ep → H b = none := fun {b o es ep} e d => by
      refine clear e (fun vs n z => ?_) fun z => ?_
      · rw [d] at z
        cases z
      · rw [d] at z
        cases z
    have nsB : ∀ {b : Addr} {m : Str → Option Value}, s₁.heap.Ns b m → (hidT s₁.heap H).Ns b m := fun {b m} ⟨o, es, ep, e, d, r⟩ => ⟨o, es, ep, inB e (clearD e d), d, r⟩
    have kinB : K.In (hidT s₁.heap H) := fun b o e => inB (kin b o e) (by
      cases q : H b with
      | none => rfl
      | some u =>
        rcases onlyA b (by rw [q]; simp) with e' | e'
        · rw [e'] at e q
          rw [lkA (by rw [q]; simp)] at e
          cases e
        · obtain ⟨p, hp, ep⟩ := List.mem_map.mp e'
          rw [← ep, offT p hp] at e
          cases e)
    have modB : L2.Mod K mg (hidT s₁.heap H) := ⟨kinB, nsB nsG, ⟨mb, nsB hb, bbs⟩, let ⟨mc, h1, h2⟩ := limN; ⟨mc, nsB h1, h2⟩⟩
    have tbs : ∀ p ∈ cs, TabB (hidT s₁.heap H) mg p.1 p.2 := fun p hp => by
      have hTp := tabs0 p hp
      refine ⟨?_, ?_, fun z => ?_⟩
      · obtain ⟨o, us, file, tf, flags, tg, inF, text, tt, e1, r1, r2, r3, r4, r5, r6, r7, r8, hne⟩ := cds p hp
        refine ⟨o, us, file, tf, flags, tg, inF, text, tt, inB e1 (clear e1 (fun vs n z => ?_) fun z => ?_), r1, r2, r3, r4, r5, r6, r7, r8, hne⟩
        · rw [r2] at z
          cases z
        · rw [r2] at z
          cases z
          simp at r3
      · obtain ⟨bm, ob, b1, b2, b3, b4, b5, b6⟩ := bmn
        have neG : bm ≠ mainGlobals := fun q => by
          obtain ⟨o, es, ep, e, hd, _⟩ := nsG
          rw [q, e] at b3
          cases b3
          rw [hd] at b6
          cases b6
        have neP : bm ≠ p.2 := fun q => by
          rw [q, hTp] at b3
          cases b3
          cases b6
        refine ⟨bm, ob, b1, b2, neG, neP, inB b3 (clear b3 (fun vs n z => ?_) fun z => ?_), b4, b5, b6⟩
        · rw [b6] at z
          cases z
        · rw [b6] at z
          cases z
      · obtain ⟨o, es, ep, e, hd, _⟩ := nsG
        rw [z, hTp] at e
        cases e
        cases hd
    have e0 : Env0 P w K mg (hidT s₁.heap H) callerA [] s₁ H := ⟨rfl, modB, fun b o e => of_hidT e, Nat.le_of_eq (hidT_size _ _), trivial, fun b hb => absurd (show b ∈ ([] : List Addr) from hb) (by simp), hok, .of_eq gen0⟩
    refine codeAny_mono ((F _ kinB (nsB nsG) tbs).run callerA [] s₁ H ⟨[.ref a], []⟩ [.ref a] [.ref a] _ _ rfl hr e0 (bnd s₁ (.ref a)) (.cons rfl .nil) (spH H tabH sqA)) fun r s' h => ?_
    cases r with
    | error e => exact (cxF H e s' h).elim
    | ok fl =>
      cases fl with
      | next => exact False.elim h
      | brk => exact False.elim h
      | cont => exact False.elim h
      | ret u =>
        obtain ⟨v, H', os, bare, un, hok', r', q⟩ := h
        have q' : v = .bl true := q
        subst q'
        obtain rfl : u = Value.bool true := r'
        have stays : ∀ b o, b ∉ cs.map (·.2) → s₁.heap.get? b = some o → s'.heap.get? b = some o := fun b o nb e => by
          cases q : H b with
          | none => exact un.keep b o e q (by intro z; exact absurd (show b ∈ ([] : List Addr) from z) (by simp)) (by simp)
          | some u =>
            rcases kindH b with z | z | ⟨ob, xs, z⟩
            · rw [q] at z; cases z
            · exact absurd z nb
            · have z2 := un.frzs b ob _ z
              obtain ⟨e1, _⟩ := hok b _ z
              obtain ⟨e2, _⟩ := hok' b _ z2
              rw [e] at e1; cases e1
              exact e2
        have grew : ∀ p ∈ cs, ∃ more : Array Value, s'.heap.get? p.2 = some { cls := .none, data := .fields more } := fun p hp => by
          obtain ⟨more, z⟩ := un.tbls p.2 #[] (tabH p hp)
          exact ⟨_, hok' p.2 _ z⟩
        refine ⟨rfl, ⟨fun b o e => ?_, fun b o e => ?_⟩, os, bare⟩
        · by_cases hb : b ∈ cs.map (·.2)
          · obtain ⟨p, hp, ep⟩ := List.mem_map.mp hb
            obtain ⟨more, hm⟩ := grew p hp
            rw [← ep] at e ⊢
            rw [tabs0 p hp] at e
            cases e
            exact .inr (.inl ⟨((cds p hp).tab (tabs0 p hp)).isCodeTable, rfl, #[], more, rfl, by rw [Array.empty_append]; exact hm⟩)
          · exact .inl (stays b o hb e)
        · by_cases hb : b ∈ cs.map (·.2)
          · obtain ⟨p, hp, ep⟩ := List.mem_map.mp hb
            obtain ⟨more, hm⟩ := grew p hp
            rw [← ep]
            exact ⟨_, hm⟩
          · exact ⟨o, stays b o hb e⟩
  cases hk : K.lookup a with
  | some o =>
    have e := kin a o hk
    rw [ha] at e
    cases e
    refine heart (fun b => if b ∈ cs.map (·.2) then some (.tbl #[]) else none) (fun p hp => if_pos (inT p hp)) (fun b => ?_) (.inr ⟨_, vs.toArray, _, hk, rfl, rfl, rfl, by rw [List.size_toArray, lenIs]; exact hl, by simpa using valsA⟩) (fun b u z => ?_) (fun b z => ?_) fun z => absurd (show (if a ∈ cs.map (·.2) then some (HO.tbl #[]) else none) = none from if_neg aOff) z
    · by_cases hb : b ∈ cs.map (·.2)
      · exact .inr (.inl hb)
      · exact .inl (if_neg hb)
    · by_cases hb : b ∈ cs.map (·.2)
      · have z' := (if_pos hb).symm.trans z
        cases z'
        exact tabAt b hb
      · have z' := (if_neg hb).symm.trans z
        cases z'
    · by_cases hb : b ∈ cs.map (·.2)
      · exact .inr hb
      · exact absurd (if_neg hb) z
  | none =>
    refine heart (fun b => if b = a then some (.frz { cls := .type "list", data := .seq vs.toArray } (.lst (ns.map V.int))) else if b ∈ cs.map (·.2) then some (.tbl #[]) else none) (fun p hp => (if_neg (show ¬ p.2 = a from fun z => aOff (by rw [← z]; exact inT p hp))).trans (if_pos (inT p hp))) (fun b => ?_)
      (.inl (.inr ⟨{ cls := .type "list", data := .seq vs.toArray }, if_pos rfl⟩)) (fun b u z => ?_) (fun b z => ?_) fun _ => hk
    · by_cases hb : b = a
      · exact .inr (.inr ⟨_, _, if_pos hb⟩)
      · by_cases hb2 : b ∈ cs.map (·.2)
        · exact .inr (.inl hb2)
        · exact .inl ((if_neg hb).trans (if_neg hb2))
    · by_cases hb : b = a
      · have z' := (if_pos hb).symm.trans z
        cases z'
        rw [hb]
        exact ⟨ha, by rw [List.length_map]; exact hl, vs, _, valsA, ha⟩
      · have z1 := (if_neg hb).symm.trans z
        by_cases hb2 : b ∈ cs.map (·.2)
        · have z' := (if_pos hb2).symm.trans z1
          cases z'
          exact tabAt b hb2
        · have z' := (if_neg hb2).symm.trans z1
          cases z'
    · by_cases hb : b = a
      · exact .inl hb
      · by_cases hb2 : b ∈ cs.map (·.2)
        · exact .inr hb2
        · exact absurd ((if_neg hb).trans (if_neg hb2)) z
/-- what is known of such a law at the head's heap h -/
def LawAtG (l : PySem.W.OpenLaw) (w : World) (K : PySem.W.Frag) (CX : CXT) (k n : Nat) (x : Str) (mg : Str → Option Value) (fa : Addr) (h : Heap) : Prop :=
  ∃ (fd : FuncData) (cs : List (Addr × Addr)) (sp : Sp), (∀ p ∈ cs, h.get? p.2 = some { cls := .none, data := .fields #[] }) ∧ (∀ p ∈ cs, K.lookup p.2 = none) ∧ (∀ p ∈ cs, PySem.W.CodeHd h p.1 p.2) ∧ (∀ (s : Shared) (u : Value), BindsTo s fd ⟨[u], []⟩ [(x, u)]) ∧
    (∀ (H : Hp) (a : Addr) (ns : List Int), ns.length ≤ n → (∀ z ∈ ns, Builtin.Int.intBits z ≤ 1048576) → (∀ p ∈ cs, H p.2 = some (.tbl #[])) → SqL K H a (ns.map V.int) → sp [.ref a] H (fun v _ => v = .bl true) fun _ _ _ => False) ∧
    ∀ base : Heap, K.In base → base.Ns mainGlobals mg → (∀ p ∈ cs, TabB base mg p.1 p.2) → FnOkG l.prog w K mg base CX k fa fd [x] sp
theorem walk_ofG {l : PySem.W.OpenLaw} {n k : Nat} {q : Program} {loose : List Str} {XP : (Str → Option Value) → Heap → Prop} {YP : World → Heap → Prop} {d : DefRec} {CX : World → CXT} {x : Str}
    (hn : l.most = some n) (hn2 : n ≤ sizeLine) (hdf : d.params.defaults = []) (hr : Room k callerA)
    (F : ∀ (w : World) (mg : Str → Option Value) (fa : Addr) (h : Heap), YP w h → h.Ns mainGlobals mg → mg d.name = some (.ref fa) → ∃ K : PySem.W.Frag, K.In h ∧ LawAtG l w K (CX w) k n x mg fa h)
    (cxF : ∀ (w : World) (H : Hp) (s : Shared) (e : Value) (s' : Shared), CX w [] H s (fun _ _ _ => False) e s' → False) :
    PySem.W.WalkO q loose XP YP l.row.toRowW d [] (fun f vs => PySem.call f vs) := by
  refine Att.attach_callB hn hdf fun w s₀ s₁ mg mb fa o pm cd doc a vs ns G Y ho hd hcd hmg hobj hints hlen hbits gen0 => ?_
  obtain ⟨K, kin, fd, cs, sp, h1, h2, h3, h4, h5, h6⟩ := F w mg fa _ Y G.T.g hmg
  exact law_callG kin G.T.g G.T.b G.T.builtins G.T.nolimit gen0 h1 h2 h3 G.T.bmain hobj hints (Nat.le_trans hlen hn2) hr h6 h4 (fun H a1 a2 => h5 H a ns hlen hbits a1 a2) fun H e s' => cxF w H s₁ e s'
end PD
set_option maxHeartbeats 2000000
/-! PH 1: what the head tells of the own errors. -/
namespace PD
open PySem PySem.Spec PyProof.Rows L2 PySem.W
def vanFn (K : PySem.W.Frag) : Addr := He.ma K (He.ga K "VanError") "__init__"
abbrev VnV : Type := Option (Str × Str × Arguments × FuncBody × Scope × Addr × List Str × Addr)
def vanObs (K : PySem.W.Frag) : VnV := match K.lookup (vanFn K) with
  | some ⟨_, _, .func fd, _⟩ => some (fd.name, fd.qualname, fd.params, fd.body, fd.scope, fd.globals, fd.closure.map (·.1), fd.builtins)
  | _ => none
def vanVal : VnV := some ("__init__", "VanError.__init__", PV.iA, .stmts PV.iB, PV.iS, mainGlobals, [("__class__" : Str)], builtinsNs)
def isNonV : Value → Bool
  | .none => true
  | _ => false
theorem isNonV_ok {v : Value} (h : isNonV v = true) : v = .none := by cases v <;> first | rfl | cases h
def codeFileB (K : PySem.W.Frag) (file : Str) : Value → Bool
  | .ref cda => (match K.lookup cda with
    | some ⟨_, _, .fields (vs : Array Value), _⟩ => (match (vs[2]? : Option Value) with
      | some (.str f _) => decide (file = f)
      | _ => false)
    | _ => false)
  | _ => false
def cellB (K : PySem.W.Frag) (D : Addr) : List (Str × Addr) → Bool
  | [p] => (match K.lookup p.2 with
    | some ⟨_, _, .cell (some (.ref D')), _⟩ => decide (D' = D)
    | _ => false)
  | _ => false
def vanB (file : Str) (K : PySem.W.Frag) : Bool := (match K.lookup (vanFn K) with
  | some ⟨_, _, .func fd, _⟩ => isNonV fd.defaults && isNonV fd.kwdefaults && codeIn K fd.code "VanError.__init__" && codeFileB K file fd.code && cellB K (He.ga K "VanError") fd.closure
  | _ => false) && (clsIn K (He.ga K "VanError")).isSome && decide (nsIn K mainGlobals "super" = some none) && decide (typeIn K (.ref (vanFn K)) = some (.type "function")) && decide (nsIn K cStatics "thirdparty.any" = some none)
theorem van_txt {P : Program} {K : PySem.W.Frag} (ho : vanObs K = vanVal) (hb : vanB P.main.file K = true) (ht : (P.main.scope.names.lookup ("super" : Str)).isSome = false) : PV.VanTxt P K (He.ga K "VanError") (vanFn K) := by
  unfold vanB at hb
  simp only [Bool.and_eq_true, decide_eq_true_eq] at hb
  obtain ⟨⟨⟨⟨hf, hc⟩, hs⟩, ht2⟩, ha⟩ := hb
  refine ⟨?_, ht, hs, ht2, ha⟩
  unfold vanObs at ho
  cases q : K.lookup (vanFn K) with
  | none => rw [q] at hf; cases hf
  | some o =>
    obtain ⟨oc, od, dt, osl⟩ := o
    rw [q] at hf ho
    cases dt with
    | func fd =>
      obtain ⟨n1, n2, n3, n4, n5, n6, n7, n8, n9, n10, n11, n12, n13, n14, n15⟩ := fd
      simp only [Bool.and_eq_true] at hf
      obtain ⟨⟨⟨⟨f1, f2⟩, f3⟩, f4⟩, f5⟩ := hf
      have e2 : (some (n1, n2, n3, n4, n5, n6, n7.map (·.1), n15) : VnV) = some (("__init__" : Str), ("VanError.__init__" : Str), PV.iA, FuncBody.stmts PV.iB, PV.iS, mainGlobals, [("__class__" : Str)], builtinsNs) := ho
      simp only [Option.some.injEq, Prod.mk.injEq] at e2
      obtain ⟨h1, h2, h3, h4, h5, h6, h7, h8⟩ := e2
      have d1 := isNonV_ok f1
      have d2 := isNonV_ok f2
      subst h1 h2 h3 h4 h5 h6 h8 d1 d2
      cases n13 with
      | ref cda =>
        have f4' : (match K.lookup cda with
          | some ⟨_, _, .fields (vs : Array Value), _⟩ => (match (vs[2]? : Option Value) with
            | some (.str f _) => decide ((P.main.file : Str) = f)
            | _ => false)
          | _ => false) = true := f4
        cases q2 : K.lookup cda with
        | none => rw [q2] at f4'; cases f4'
        | some oc2 =>
          obtain ⟨c1, c2, dt2, c4⟩ := oc2
          rw [q2] at f4'
          cases dt2 with
          | fields vs =>
            simp only at f4'
            cases q3 : vs[2]? with
            | none => rw [q3] at f4'; cases f4'
            | some fv =>
              rw [q3] at f4'
              cases fv with
              | str f tf =>
                have ef : (P.main.file : Str) = f := of_decide_eq_true f4'
                cases n7 with
                | nil => cases f5
                | cons p r =>
                  cases r with
                  | cons _ _ => cases f5
                  | nil =>
                    obtain ⟨pn, cc⟩ := p
                    have hn : pn = "__class__" := by simpa using h7
                    subst hn
                    have f5' : (match K.lookup cc with
                      | some ⟨_, _, .cell (some (.ref D')), _⟩ => decide (D' = He.ga K "VanError")
                      | _ => false) = true := f5
                    cases q4 : K.lookup cc with
                    | none => rw [q4] at f5'; cases f5'
                    | some o4 =>
                      obtain ⟨k1, k2, dt4, k4⟩ := o4
                      rw [q4] at f5'
                      cases dt4 with
                      | cell cv =>
                        cases cv with
                        | none => cases f5'
                        | some cv =>
                          cases cv with
                          | ref D' =>
                            have eD : D' = He.ga K "VanError" := of_decide_eq_true f5'
                            subst eD
                            obtain ⟨cdD, hcD⟩ := Option.isSome_iff_exists.mp hc
                            exact ⟨cc, cda, oc, od, n10, n11, n12, n14, osl, c1, c2, vs, c4, f, tf, k1, k2, k4, cdD, rfl, f3, q2, q3, by rw [ef]; simp, q4, hcD⟩
                          | _ => cases f5'
                      | _ => cases f5'
              | _ => cases f4'
          | _ => cases f4'
      | _ => cases f4
    | _ => cases hf
def vanCB (K : PySem.W.Frag) (C : Addr) : Bool := (match K.lookup C with
  | some ⟨.type "type", _, .cls cd, sl⟩ => (match cd.mro, sl.toList with
    | .ref C' :: bm, [_, _, _, _, some (.builtin n), _] => C' == C && n == "ValueError.__new__" && !cd.hasDel && cd.hasDict && PySem.HandSPX.refsVE bm
    | _, _ => false)
  | _ => false) && decide (findIn K (.ref C) "__setattr__" = some (some (.builtin "object.__setattr__"))) && decide (findIn K (.ref C) "value" = some none) && decide (findIn K (.ref C) "__init__" = some (some (.ref (vanFn K)))) && keepIn K (.ref C) &&
  decide (subIn K (.ref C) (.type "BaseException") = some true) && decide (typeIn K (.ref C) = some (.type "type")) && decide (mroIn K C (.ref (He.ga K "VanError")) = some true) && decide (ks_superIn K C (He.ga K "VanError") "__init__" = some (some (.builtin "ValueError.__init__"))) && decide (subIn K (.ref C) (.type "ValueError") = some true)
theorem van_c {K : PySem.W.Frag} {C : Addr} (h : vanCB K C = true) : PV.VanC K (He.ga K "VanError") (vanFn K) C := by
  unfold vanCB at h
  simp only [Bool.and_eq_true, decide_eq_true_eq] at h
  obtain ⟨⟨⟨⟨⟨⟨⟨⟨⟨h0, h1⟩, h2⟩, h3⟩, h4⟩, h5⟩, h6⟩, h7⟩, h8⟩, h9⟩ := h
  refine ⟨?_, h1, h2, h3, h4, h5, h6, h7, h8, h9⟩
  split at h0
  · rename_i dd cd sl ho
    split at h0
    · rename_i C' bm k0 k1 k2 k3 n k5 hm hs
      simp only [Bool.and_eq_true, beq_iff_eq, Bool.not_eq_true'] at h0
      obtain ⟨⟨⟨⟨rfl, rfl⟩, hdel⟩, hdct⟩, hve⟩ := h0
      obtain ⟨nm, bs, mro, ns, qn, hd, sn, sub, ab, col, del⟩ := cd
      dsimp only at hm hdel hdct
      subst hm hdel hdct
      have hsl : sl = #[k0, k1, k2, k3, some (.builtin "ValueError.__new__"), k5] := by
        obtain ⟨l⟩ := sl
        simp only at hs
        rw [hs]
      subst hsl
      exact ⟨nm, qn, ns, bs, bm, sn, sub, ab, col, dd, k0, k1, k2, k3, k5, ho, hve⟩
    · cases h0
  · cases h0
/-- the own errors cs, and what isinstance, except say of them -/
def errB (file : Str) (cs : List Str) (K : PySem.W.Frag) : Bool := vanB file K && cs.all (fun c => vanCB K (He.ga K c) && iseB K c cs && decide (exmOne K (.ref (He.ga K c)) (.ref (He.ga K "VanError")) = some true) && decide (nsIn K mainGlobals c = some (some (.ref (He.ga K c))))) && decide (nsIn K mainGlobals "VanError" = some (some (.ref (He.ga K "VanError"))))
structure Errs (P : Program) (K : PySem.W.Frag) (mg : Str → Option Value) (cs : List Str) : Prop where
  ex : ∀ c ∈ cs, Ex P K mg c
  is : ∀ c ∈ cs, IsE K c cs
  exm : ∀ c ∈ cs, exmOne K (.ref (He.ga K c)) (.ref (He.ga K "VanError")) = some true
  van : mg "VanError" = some (.ref (He.ga K "VanError"))
theorem errs_by {P : Program} {K : PySem.W.Frag} {mg : Str → Option Value} {cs : List Str} {h : Heap} (X : K.In h) (G : h.Ns mainGlobals mg) (ho : vanObs K = vanVal) (hb : errB P.main.file cs K = true) (ht : (P.main.scope.names.lookup ("super" : Str)).isSome = false) : Errs P K mg cs := by
  unfold errB at hb
  simp only [Bool.and_eq_true, decide_eq_true_eq, List.all_eq_true] at hb
  obtain ⟨⟨h1, h2⟩, h3⟩ := hb
  have T := van_txt ho h1 ht
  refine ⟨fun c hc => ?_, fun c hc => ise_by (h2 c hc).1.1.2, fun c hc => (h2 c hc).1.2, mg_of X G h3⟩
  have q := h2 c hc
  exact ⟨⟨_, _, T, van_c q.1.1.1⟩, mg_none_of X G T.sup, mg_of X G q.2⟩
/-! ### the Hook -/
abbrev AlV : Type := He.AlX × VnV
/-- where it looks: what the module's names reach, the statics -/
def lookAs (n : Nat) (g : Addr → Option Obj) : List Addr := cStatics :: He.asD g n
def obsK (fa : List He.Fa) (fn : List He.DefD) (tf : List He.Defn) (ex : PySem.W.Frag → Bool) (g : Addr → Option Obj) (K : PySem.W.Frag) : AlV := ((He.obsT fa fn [] K, ex K && He.tabsB g tf K), vanObs K)
def obsV (n : Nat) (fa : List He.Fa) (fn : List He.DefD) (tf : List He.Defn) (ex : PySem.W.Frag → Bool) (g : Addr → Option Obj) : AlV := obsK fa fn tf ex g (He.frT g (lookAs n g))
theorem says_of {fa : List He.Fa} {fn : List He.DefD} {tf : List He.Defn} {ex : PySem.W.Frag → Bool} {w : World} {h : Heap} {as : List Addr} (e : obsK fa fn tf ex h.get? (He.frT h.get? as) = (He.valX fn [] w, vanVal)) : He.SaysX fa fn [] tf ex w h (He.frT h.get? as) ∧ vanObs (He.frT h.get? as) = vanVal := by
  have e0 := congrArg (fun z : AlV => z.1.2) e
  have e1 : (ex (He.frT h.get? as) && He.tabsB h.get? tf (He.frT h.get? as)) = true := e0
  rw [Bool.and_eq_true] at e1
  have all := List.all_eq_true.mp e1.2
  have tab : ∀ p ∈ tf, ∃ o, h.get? (He.cT (He.frT h.get? as) p).2 = some o ∧ He.emptyTab o = true := fun p hp => by
    have q := (Bool.and_eq_true_iff.mp (all p hp)).2
    split at q
    · rename_i o ho
      exact ⟨o, ho, q⟩
    · cases q
  refine ⟨⟨congrArg (fun z : AlV => z.1.1) e, e1.1, fun p hp => (Bool.and_eq_true_iff.mp (all p hp)).1, fun p hp => ?_, fun p hp => ?_⟩, congrArg (fun z : AlV => z.2) e⟩
  · obtain ⟨o, ho, hz⟩ := tab p hp
    exact He.frT_none ho hz
  · obtain ⟨o, ho, hz⟩ := tab p hp
    rw [ho, He.emptyTab_eq hz]
def hookV (n : Nat) (fa : List He.Fa) (fn : List He.DefD) (tf : List He.Defn) (ex : PySem.W.Frag → Bool) : PySem.W.Hook where
  α := AlV
  obs := fun s => obsV n fa fn tf ex s.heap.get?
  val := fun w => (He.valX fn [] w, vanVal)
  says := fun w h => ∃ K : PySem.W.Frag, K.In h ∧ He.SaysX fa fn [] tf ex w h K ∧ vanObs K = vanVal
  of := fun _ _ e => ⟨_, He.frT_in, says_of e⟩
  keeps := fun _ _ _ ⟨K, hK, c, v⟩ k => ⟨K, PySem.W.Frag.In.keeps hK k, ⟨c.t, c.more, c.hd, c.out, fun p hp => k _ _ (c.empty p hp)⟩, v⟩
theorem obsV_eq {n : Nat} {fa : List He.Fa} {fn : List He.DefD} {tf : List He.Defn} {ex : PySem.W.Frag → Bool} {g : Addr → Option Obj} {s : Shared} (h : ∀ a, g a = s.heap.get? a) : obsV n fa fn tf ex g = (hookV n fa fn tf ex).obs s := by
  have e : g = s.heap.get? := funext h
  rw [e] <;> rfl
end PD
set_option maxHeartbeats 2000000
/-! PH 2: lambdas' tables, the script. -/
namespace PD
open PySem PySem.Spec PyProof.Rows L2 PySem.W
def isIntV : Value → Bool
  | .int _ _ => true
  | _ => false
/-- no list of whole numbers stands in the written part -/
def noInts (K : PySem.W.Frag) : Bool := K.all fun p => match p.2 with
  | ⟨.type "list", _, .seq its _, _⟩ => !(its.toList.all isIntV)
  | _ => true
theorem ints_all : ∀ {ns : List Int} {us : List Value}, Vals (ns.map V.int) us → us.all isIntV = true
  | [], [], _ => rfl
  | n :: ns, u :: us, .cons r t => by
    obtain ⟨k, rfl⟩ := (show ∃ t, u = Value.int n t from r)
    rw [List.all_cons, ints_all t]
    rfl
theorem script_rd {K : PySem.W.Frag} (h : noInts K = true) {H : Hp} {a : Addr} {ns : List Int} (s : SqL K H a (ns.map V.int)) : Rd H a (.lst (ns.map V.int)) := by
  rcases s with s | ⟨o, its, n, e, h1, _, h3, _, r⟩
  · exact s
  · exfalso
    have z := List.all_eq_true.mp h _ (He.lookup_mem e)
    obtain ⟨oc, od, dt, osl⟩ := o
    have h1 : oc = .type "list" := h1
    have h3 : dt = .seq its n := h3
    subst h1 h3
    have w := ints_all r
    have z : (!(its.toList.all isIntV)) = true := z
    rw [w] at z
    cases z
theorem mk_of {base : Heap} {mg : Str → Option Value} {K : PySem.W.Frag} {x qual q : Str} {params : Arguments} {body : List Stmt} {scope : Scope} {kws : List (Str × V)} {fd : FuncData} {p : He.Defn} {T : Addr} (F : FunD K x qual params body scope [] kws (He.fAd K p) fd) (hT : He.tabOf K (He.codeOf K p) = T)
    (tb : LamX.TabB base mg (He.cT K p).1 (He.cT K p).2) (hm : (T, q) ∈ PD.tabs) (hu : ∀ r ∈ PD.tabs, r.1 = T → r.2 = q) : Mk base mg q fd.code := by
  obtain ⟨oc, od, dV, kV, doc, pm, an, cdv, ct, osl, rfl, lk, hcd, _, _⟩ := F.ex
  obtain ⟨c, rfl⟩ := He.codeIn_ref hcd
  have e := He.codeOf_eq lk (c := c) rfl
  unfold He.cT at tb
  rw [hT, e] at tb
  exact ⟨c, T, rfl, tb, hm, hu⟩
theorem tabs_new {H : Hp} (h : ∀ p ∈ PD.tabs, H p.1 = some (.tbl #[])) : LamX.Tabs PD.tabs H := fun p hp => ⟨#[], h p hp, trivial, fun pos cv e => by cases e⟩
/-- such a law's promise, from what it comes to -/
theorem sp_law {K : PySem.W.Frag} {f : List PyData → Res PyData} {H : Hp} {a : Addr} {ns : List Int} (h : f [.list (ns.map .int)] = .ok (.bool true)) (hT : ∀ p ∈ PD.tabs, H p.1 = some (.tbl #[])) (s : Rd H a (.lst (ns.map V.int))) :
    spP K 1 .p f [.ref a] H (fun v _ => v = .bl true) fun _ _ _ => False := by
  refine ⟨rfl, tabs_new hT, fun _ => False, [.list (ns.map .int)], fun _ z => z.elim, .cons (.lst ⟨fun z => z, s⟩ (ints_dvS ns)) .nil, ?_⟩
  rw [h]
  intro v H' _ r
  cases (show Dv K H' _ v (.bool true) from r)
  rfl
end PD
set_option maxHeartbeats 0
namespace PG
open PySem PySem.Spec PyProof.Rows L2 PD
abbrev R : PySem.W.OpenRow := PySem.W.OpenLaw.row PySem.Challenge.rw_nevermelted_k83_what_queues_refuse
abbrev qv : Program := PySem.W.view R.prog [77]
def names : List PySem.Str := R.prog.main.scope.names.filterMap fun p => if p.2 == .local && p.1 != ("law" : PySem.Str) && p.1 != ("__name__" : PySem.Str) then some p.1 else none
def dfs : List He.DefD := [⟨("is_integer", none), "is_integer", "is_integer", defArgs st_is_integer, defBody st_is_integer, defScope st_is_integer, [], []⟩,
  ⟨("is_between", none), "is_between", "is_between", defArgs st_is_between, defBody st_is_between, defScope st_is_between, [], []⟩,
  ⟨("are_between", none), "are_between", "are_between", defArgs st_are_between, defBody st_are_between, defScope st_are_between, [], []⟩,
  ⟨("is_ascending", none), "is_ascending", "is_ascending", defArgs st_is_ascending, defBody st_is_ascending, defScope st_is_ascending, [], []⟩,
  ⟨("is_child", none), "is_child", "is_child", defArgs st_is_child, defBody st_is_child, defScope st_is_child, [], []⟩,
  ⟨("is_queue", none), "is_queue", "is_queue", defArgs st_is_queue, defBody st_is_queue, defScope st_is_queue, [], []⟩,
  ⟨("check_queue", none), "check_queue", "check_queue", defArgs st_check_queue, defBody st_check_queue, defScope st_check_queue, [], []⟩,
  ⟨("is_row_of", none), "is_row_of", "is_row_of", defArgs st_is_row_of, defBody st_is_row_of, defScope st_is_row_of, [], []⟩,
  ⟨("is_row", none), "is_row", "is_row", defArgs st_is_row, defBody st_is_row, defScope st_is_row, [], []⟩,
  ⟨("check_row", none), "check_row", "check_row", defArgs st_check_row, defBody st_check_row, defScope st_check_row, [], []⟩,
  ⟨("is_served", none), "is_served", "is_served", defArgs st_is_served, defBody st_is_served, defScope st_is_served, [], []⟩,
  ⟨("is_plan_of", none), "is_plan_of", "is_plan_of", defArgs st_is_plan_of, defBody st_is_plan_of, defScope st_is_plan_of, [], []⟩,
  ⟨("is_plan", none), "is_plan", "is_plan", defArgs st_is_plan, defBody st_is_plan, defScope st_is_plan, [], []⟩,
  ⟨("ends_by", none), "ends_by", "ends_by", defArgs st_ends_by, defBody st_ends_by, defScope st_ends_by, [], []⟩,
  ⟨("ends_of", none), "ends_of", "ends_of", defArgs st_ends_of, defBody st_ends_of, defScope st_ends_of, [], []⟩,
  ⟨("late_by", none), "late_by", "late_by", defArgs st_late_by, defBody st_late_by, defScope st_late_by, [], []⟩,
  ⟨("late_in", none), "late_in", "late_in", defArgs st_late_in, defBody st_late_in, defScope st_late_in, [], []⟩,
  ⟨("is_all", none), "is_all", "is_all", defArgs st_is_all, defBody st_is_all, defScope st_is_all, [], []⟩,
  ⟨("plan_of", none), "plan_of", "plan_of", defArgs st_plan_of, defBody st_plan_of, defScope st_plan_of, [], []⟩,
  ⟨("need_in", none), "need_in", "need_in", defArgs st_need_in, defBody st_need_in, defScope st_need_in, [], []⟩,
  ⟨("span_of", none), "span_of", "span_of", defArgs st_span_of, defBody st_span_of, defScope st_span_of, [], []⟩,
  ⟨("can_plan", none), "can_plan", "can_plan", defArgs st_can_plan, defBody st_can_plan, defScope st_can_plan, [], []⟩,
  ⟨("plan_told", none), "plan_told", "plan_told", defArgs st_plan_told, defBody st_plan_told, defScope st_plan_told, [], []⟩,
  ⟨("is_whole_plan", none), "is_whole_plan", "is_whole_plan", defArgs st_is_whole_plan, defBody st_is_whole_plan, defScope st_is_whole_plan, [], []⟩,
  ⟨("shows_plan", none), "shows_plan", "shows_plan", defArgs st_shows_plan, defBody st_shows_plan, defScope st_shows_plan, [], []⟩,
  ⟨("lots_of", none), "lots_of", "lots_of", defArgs st_lots_of, defBody st_lots_of, defScope st_lots_of, [], []⟩,
  ⟨("picked", none), "picked", "picked", defArgs st_picked, defBody st_picked, defScope st_picked, [], []⟩,
  ⟨("most_lot", none), "most_lot", "most_lot", defArgs st_most_lot, defBody st_most_lot, defScope st_most_lot, [], []⟩,
  ⟨("most_planned", none), "most_planned", "most_planned", defArgs st_most_planned, defBody st_most_planned, defScope st_most_planned, [], []⟩,
  ⟨("shows_most_planned", none), "shows_most_planned", "shows_most_planned", defArgs st_shows_most_planned, defBody st_shows_most_planned, defScope st_shows_most_planned, [], []⟩,
  ⟨("least_hurry", none), "least_hurry", "least_hurry", defArgs st_least_hurry, defBody st_least_hurry, defScope st_least_hurry, [], []⟩,
  ⟨("rows_of", none), "rows_of", "rows_of", defArgs st_rows_of, defBody st_rows_of, defScope st_rows_of, [], []⟩,
  ⟨("lateness", none), "lateness", "lateness", defArgs st_lateness, defBody st_lateness, defScope st_lateness, [], []⟩,
  ⟨("waits_in", none), "waits_in", "waits_in", defArgs st_waits_in, defBody st_waits_in, defScope st_waits_in, [], []⟩,
  ⟨("best_rows", none), "best_rows", "best_rows", defArgs st_best_rows, defBody st_best_rows, defScope st_best_rows, [], []⟩,
  ⟨("fewest_late", none), "fewest_late", "fewest_late", defArgs st_fewest_late, defBody st_fewest_late, defScope st_fewest_late, [], []⟩,
  ⟨("least_lateness", none), "least_lateness", "least_lateness", defArgs st_least_lateness, defBody st_least_lateness, defScope st_least_lateness, [], []⟩,
  ⟨("least_waiting", none), "least_waiting", "least_waiting", defArgs st_least_waiting, defBody st_least_waiting, defScope st_least_waiting, [], []⟩,
  ⟨("is_pair", none), "is_pair", "is_pair", defArgs st_is_pair, defBody st_is_pair, defScope st_is_pair, [], []⟩,
  ⟨("row_told", none), "row_told", "row_told", defArgs st_row_told, defBody st_row_told, defScope st_row_told, [], []⟩,
  ⟨("shows_row", none), "shows_row", "shows_row", defArgs st_shows_row, defBody st_shows_row, defScope st_shows_row, [], []⟩,
  ⟨("least_late", none), "least_late", "least_late", defArgs st_least_late, defBody st_least_late, defScope st_least_late, [], []⟩,
  ⟨("shows_least_late", none), "shows_least_late", "shows_least_late", defArgs st_shows_least_late, defBody st_shows_least_late, defScope st_shows_least_late, [], []⟩,
  ⟨("least_greatest", none), "least_greatest", "least_greatest", defArgs st_least_greatest, defBody st_least_greatest, defScope st_least_greatest, [], []⟩,
  ⟨("shows_least_greatest", none), "shows_least_greatest", "shows_least_greatest", defArgs st_shows_least_greatest, defBody st_shows_least_greatest, defScope st_shows_least_greatest, [], []⟩,
  ⟨("least_waits", none), "least_waits", "least_waits", defArgs st_least_waits, defBody st_least_waits, defScope st_least_waits, [], []⟩,
  ⟨("shows_least_waits", none), "shows_least_waits", "shows_least_waits", defArgs st_shows_least_waits, defBody st_shows_least_waits, defScope st_shows_least_waits, [], []⟩,
  ⟨("swapped", none), "swapped", "swapped", defArgs st_swapped, defBody st_swapped, defScope st_swapped, [], []⟩,
  ⟨("_law_caught", none), "_law_caught", "_law_caught", defArgs st__law_caught, defBody st__law_caught, defScope st__law_caught, [], []⟩,
  ⟨("_law_is_raised", none), "_law_is_raised", "_law_is_raised", defArgs st__law_is_raised, defBody st__law_is_raised, defScope st__law_is_raised, [], []⟩,
  ⟨("_law_pot", none), "_law_pot", "_law_pot", defArgs st__law_pot, defBody st__law_pot, defScope st__law_pot, [], []⟩,
  ⟨("_law_cells", none), "_law_cells", "_law_cells", defArgs st__law_cells, defBody st__law_cells, defScope st__law_cells, [], []⟩,
  ⟨("_law_take", none), "_law_take", "_law_take", defArgs st__law_take, defBody st__law_take, defScope st__law_take, [], []⟩,
  ⟨("_law_of", none), "_law_of", "_law_of", defArgs st__law_of, defBody st__law_of, defScope st__law_of, [], []⟩,
  ⟨("_law_right", none), "_law_right", "_law_right", defArgs st__law_right, defBody st__law_right, defScope st__law_right, [], []⟩,
  ⟨("law", none), "law", "law", defArgs st_law, defBody st_law, defScope st_law, [], []⟩]
def fas : List He.Fa := [.glo "is_integer", .glo "is_between", .glo "are_between", .glo "is_ascending", .glo "is_child", .glo "is_queue", .glo "check_queue", .glo "is_row_of", .glo "is_row", .glo "check_row", .glo "is_served", .glo "is_plan_of", .glo "is_plan", .glo "ends_by", .glo "ends_of", .glo "late_by", .glo "late_in", .glo "is_all", .glo "plan_of", .glo "need_in", .glo "span_of", .glo "can_plan", .glo "plan_told", .glo "is_whole_plan", .glo "shows_plan", .glo "lots_of", .glo "picked", .glo "most_lot", .glo "most_planned", .glo "shows_most_planned", .glo "least_hurry", .glo "rows_of", .glo "lateness", .glo "waits_in", .glo "best_rows", .glo "fewest_late", .glo "least_lateness", .glo "least_waiting", .glo "is_pair", .glo "row_told", .glo "shows_row", .glo "least_late", .glo "shows_least_late", .glo "least_greatest", .glo "shows_least_greatest", .glo "least_waits", .glo "shows_least_waits", .glo "swapped", .glo "_law_caught", .glo "_law_is_raised", .glo "_law_pot", .glo "_law_cells", .glo "_law_take", .glo "_law_of", .glo "_law_right", .glo "law", .free "abs", .free "all", .free "bool", .free "enumerate", .free "int", .free "isinstance", .free "len", .free "list", .free "max", .free "min", .free "range", .free "repr", .free "set", .free "sorted", .free "str", .free "sum", .free "tuple", .free "zip", .int "MOST_CHILDREN" 6, .int "MOST_COME" 20, .int "MOST_DUE" 30, .int "MOST_NEED" 6, .int "MOST_SUM" 1000, .str "NONE" "none", .str "PLAN" "plan", .int "PLAN_TICKS" 30, .str "ROW" "row", .str "SPAN" "span", .int "THREE_queues" 3, .int "THREE_serving" 3]
def tfs : List He.Defn := [("fewest_late", none), ("least_lateness", none), ("least_waiting", none), ("shows_least_late", none), ("shows_least_greatest", none), ("shows_least_waits", none), ("_law_right", none)]
def more (K : PySem.W.Frag) : Bool := errB R.prog.main.file CS K && noInts K && (Nat.beq (He.tabOf K (He.codeOf K ("fewest_late", none))) 299 && Nat.beq (He.tabOf K (He.codeOf K ("least_lateness", none))) 341 && Nat.beq (He.tabOf K (He.codeOf K ("least_waiting", none))) 362 && Nat.beq (He.tabOf K (He.codeOf K ("shows_least_late", none))) 334 && Nat.beq (He.tabOf K (He.codeOf K ("shows_least_greatest", none))) 355 && Nat.beq (He.tabOf K (He.codeOf K ("shows_least_waits", none))) 376 && Nat.beq (He.tabOf K (He.codeOf K ("_law_right", none))) 432)
abbrev hk : PySem.W.Hook := hookV 4 fas dfs tfs more
def ob (s : PySem.W.SharedT) : AlV := obsV 4 fas dfs tfs more (HandSHeadRun.getT s)
theorem ob_eq (s : PySem.W.SharedT) : ob s = hk.obs s.abs := obsV_eq (HandSHeadRun.getT_eq s)
theorem run (w : World) : HandSHeadRun.RunEq R qv hk ob 6000 names w := by
  intro os
  kernel_rfl
end PG
set_option maxHeartbeats 2000000
/-! PQ 0: a def's promise at its own function object (the law's def). -/
namespace PD
open PySem PySem.Spec PyProof.Rows L2 PySem.W
theorem fnG_at {P : Program} {w : World} {K : PySem.W.Frag} {mg : Str → Option Value} {base : Heap} {x qual : Str} {params : Arguments} {body : List Stmt} {scope : Scope} {fa : Addr} {fd : FuncData} {N ps : List Str} {k n l : Nat} {m : MS} (F : FunD K x qual params body scope [] [] fa fd) (S : FnScope N ps scope) (hn : ps.length = n) (hN : N.length = n + l) (h : BodyG P w K mg base N qual scope fa fd.code body k n l m) :
    FnOkG P w K mg base (L2.CX P w) (k + 1) fa fd ps (spP K n .p (runFn m l)) := by
  obtain ⟨oc, od, dV, kV, doc, pm, an, cdv, ct, osl, rfl, lk, hcd, _, _⟩ := F.ex
  refine fn_ofG lk hcd S (fun vs H Q E hs => hs.1.trans hn.symm) (fun A0 outer s H vs Q E hgd hr' hs => ?_)
  obtain ⟨hl, hT, A, xs, hA, hd, hs⟩ := hs
  obtain ⟨Γ', hb⟩ := h A0 outer s H E A (cx_guards hgd) ⟨hr', rfl, passes_call (takes_of rfl rfl rfl rfl) fun _ _ _ _ z => z⟩ (takes_of rfl rfl rfl rfl) (passes_of rfl)
  refine ⟨_, hb, fun _ => none, _, sim_start hT hA hl hN hd, ?_⟩
  unfold runFn at hs
  cases e : m (xs ++ List.replicate l .none) with
  | bad => simp only [e] at hs
  | exc c x => simp only [e] at hs; exact hs
  | ok o =>
    cases o with
    | next env' => simp only [e] at hs; exact fun O' σ' H' _ z => hs .non H' z.cor.same .non
    | ret x => simp only [e] at hs; exact fun v H' sm r => hs v H' sm r
    | cont env' => simp only [e] at hs
end PD
set_option maxHeartbeats 0
namespace PG
open PySem PySem.Spec PyProof.Rows L2 PD
section
variable {w : World} {K : PySem.W.Frag} {h : Heap} {mg : Str → Option Value}
theorem gs_of (X : K.In h) (G : h.Ns mainGlobals mg) (c : He.SaysX fas dfs [] tfs more w h K) (vo : vanObs K = vanVal) : Gs R.prog K mg := by
  have d := c.t.d
  have mm := c.more
  unfold more at mm
  rw [Bool.and_eq_true, Bool.and_eq_true] at mm
  have er := errs_by (cs := CS) X G vo mm.1.1 (by rfl)
  exact ⟨He.free_ok X G (d.fact 56 (f := .free "abs") rfl),
    He.free_ok X G (d.fact 57 (f := .free "all") rfl),
    He.free_ok X G (d.fact 58 (f := .free "bool") rfl),
    He.free_ok X G (d.fact 59 (f := .free "enumerate") rfl),
    He.free_ok X G (d.fact 60 (f := .free "int") rfl),
    He.free_ok X G (d.fact 61 (f := .free "isinstance") rfl),
    He.free_ok X G (d.fact 62 (f := .free "len") rfl),
    He.free_ok X G (d.fact 63 (f := .free "list") rfl),
    He.free_ok X G (d.fact 64 (f := .free "max") rfl),
    He.free_ok X G (d.fact 65 (f := .free "min") rfl),
    He.free_ok X G (d.fact 66 (f := .free "range") rfl),
    He.free_ok X G (d.fact 67 (f := .free "repr") rfl),
    He.free_ok X G (d.fact 68 (f := .free "set") rfl),
    He.free_ok X G (d.fact 69 (f := .free "sorted") rfl),
    He.free_ok X G (d.fact 70 (f := .free "str") rfl),
    He.free_ok X G (d.fact 71 (f := .free "sum") rfl),
    He.free_ok X G (d.fact 72 (f := .free "tuple") rfl),
    He.free_ok X G (d.fact 73 (f := .free "zip") rfl),
    He.int_ok X G (d.fact 74 (f := .int "MOST_CHILDREN" 6) rfl),
    He.int_ok X G (d.fact 75 (f := .int "MOST_COME" 20) rfl),
    He.int_ok X G (d.fact 76 (f := .int "MOST_DUE" 30) rfl),
    He.int_ok X G (d.fact 77 (f := .int "MOST_NEED" 6) rfl),
    He.int_ok X G (d.fact 78 (f := .int "MOST_SUM" 1000) rfl),
    He.str_ok X G (d.fact 79 (f := .str "NONE" "none") rfl),
    He.str_ok X G (d.fact 80 (f := .str "PLAN" "plan") rfl),
    He.int_ok X G (d.fact 81 (f := .int "PLAN_TICKS" 30) rfl),
    He.str_ok X G (d.fact 82 (f := .str "ROW" "row") rfl),
    He.str_ok X G (d.fact 83 (f := .str "SPAN" "span") rfl),
    He.int_ok X G (d.fact 84 (f := .int "THREE_queues" 3) rfl),
    He.int_ok X G (d.fact 85 (f := .int "THREE_serving" 3) rfl),
    er.ex "BadPlace" (by decide +kernel),
    er.ex "BadQueue" (by decide +kernel),
    er.ex "BadRow" (by decide +kernel),
    er.ex "NotAll" (by decide +kernel),
    er.is "BadPlace" (by decide +kernel),
    er.is "BadQueue" (by decide +kernel),
    er.is "BadRow" (by decide +kernel),
    er.is "NotAll" (by decide +kernel),
    er.van,
    er.exm,
    fun x hx => ((er.is x hx).one x hx).2⟩
theorem tabs_of (c : He.SaysX fas dfs [] tfs more w h K) {H : Hp} (hT : ∀ p ∈ tfs.map (He.cT K), H p.2 = some (.tbl #[])) : ∀ p ∈ PD.tabs, H p.1 = some (.tbl #[]) := by
  have mm := c.more
  unfold more at mm
  simp only [Bool.and_eq_true] at mm
  obtain ⟨_, ⟨⟨⟨⟨⟨⟨m0, m1⟩, m2⟩, m3⟩, m4⟩, m5⟩, m6⟩⟩ := mm
  have t0 : H 299 = some (.tbl #[]) := (congrArg H (show 299 = (He.cT K ("fewest_late", none)).2 from (Nat.eq_of_beq_eq_true m0).symm)).trans (hT _ (List.mem_map.mpr ⟨("fewest_late", none), by unfold tfs; simp, rfl⟩))
  have t1 : H 341 = some (.tbl #[]) := (congrArg H (show 341 = (He.cT K ("least_lateness", none)).2 from (Nat.eq_of_beq_eq_true m1).symm)).trans (hT _ (List.mem_map.mpr ⟨("least_lateness", none), by unfold tfs; simp, rfl⟩))
  have t2 : H 362 = some (.tbl #[]) := (congrArg H (show 362 = (He.cT K ("least_waiting", none)).2 from (Nat.eq_of_beq_eq_true m2).symm)).trans (hT _ (List.mem_map.mpr ⟨("least_waiting", none), by unfold tfs; simp, rfl⟩))
  have t3 : H 334 = some (.tbl #[]) := (congrArg H (show 334 = (He.cT K ("shows_least_late", none)).2 from (Nat.eq_of_beq_eq_true m3).symm)).trans (hT _ (List.mem_map.mpr ⟨("shows_least_late", none), by unfold tfs; simp, rfl⟩))
  have t4 : H 355 = some (.tbl #[]) := (congrArg H (show 355 = (He.cT K ("shows_least_greatest", none)).2 from (Nat.eq_of_beq_eq_true m4).symm)).trans (hT _ (List.mem_map.mpr ⟨("shows_least_greatest", none), by unfold tfs; simp, rfl⟩))
  have t5 : H 376 = some (.tbl #[]) := (congrArg H (show 376 = (He.cT K ("shows_least_waits", none)).2 from (Nat.eq_of_beq_eq_true m5).symm)).trans (hT _ (List.mem_map.mpr ⟨("shows_least_waits", none), by unfold tfs; simp, rfl⟩))
  have t6 : H 432 = some (.tbl #[]) := (congrArg H (show 432 = (He.cT K ("_law_right", none)).2 from (Nat.eq_of_beq_eq_true m6).symm)).trans (hT _ (List.mem_map.mpr ⟨("_law_right", none), by unfold tfs; simp, rfl⟩))
  intro p hp
  unfold PD.tabs at hp
  simp only [List.mem_cons, List.not_mem_nil, or_false] at hp
  rcases hp with rfl | rfl | rfl | rfl | rfl | rfl | rfl <;> assumption
theorem noInts_of (c : He.SaysX fas dfs [] tfs more w h K) : noInts K = true := by
  have mm := c.more
  unfold more at mm
  rw [Bool.and_eq_true, Bool.and_eq_true] at mm
  exact mm.1.2
theorem law_of (X : K.In h) (G : h.Ns mainGlobals mg) (c : He.SaysX fas dfs [] tfs more w h K) (vo : vanObs K = vanVal) : ∃ fd : FuncData, mg "law" = some (.ref (He.fAd K ("law", none))) ∧ (∀ (s : Shared) (u : Value), BindsTo s fd ⟨[u], []⟩ [("script", u)]) ∧ ∀ base : Heap, (∀ p ∈ tfs.map (He.cT K), LamX.TabB base mg p.1 p.2) → FnOkG R.prog w K mg base (L2.CX R.prog w) 12 (He.fAd K ("law", none)) fd ["script"] (spP K 1 .p f_law) := by
  have g := gs_of X G c vo
  have d := c.t.d
  have mm := c.more
  unfold more at mm
  simp only [Bool.and_eq_true] at mm
  obtain ⟨_, ⟨⟨⟨⟨⟨⟨m0, m1⟩, m2⟩, m3⟩, m4⟩, m5⟩, m6⟩⟩ := mm
  obtain ⟨fdL, FL⟩ := d.def_ 55 rfl
  refine ⟨fdL, He.glo_ok X G (d.fact 55 (f := .glo "law") rfl), fun s u => FL.bindsA (ps := ["script"]) (fun _ _ _ _ _ _ us hl => match us, hl with | [_], _ => rfl) s [u] rfl, fun base tb => ?_⟩
  obtain ⟨fd, F⟩ := d.def_ 0 rfl
  have F_is_integer : Fn R.prog w K mg base 1 1 .p "is_integer" f_is_integer := fn_ok F sc_is_integer rfl rfl (.inl rfl) (He.glo_ok X G (d.fact 0 (f := .glo "is_integer") rfl)) (F.bindsN fun _ _ _ _ _ _ us hl => match us, hl with | [_], _ => rfl) (b_is_integer g)
  clear F fd
  obtain ⟨fd, F⟩ := d.def_ 1 rfl
  have F_is_between : Fn R.prog w K mg base 2 3 .p "is_between" f_is_between := fn_ok F sc_is_between rfl rfl (.inl rfl) (He.glo_ok X G (d.fact 1 (f := .glo "is_between") rfl)) (F.bindsN fun _ _ _ _ _ _ us hl => match us, hl with | [_, _, _], _ => rfl) (b_is_between g F_is_integer)
  clear F fd
  obtain ⟨fd, F⟩ := d.def_ 2 rfl
  have F_are_between : Fn R.prog w K mg base 3 3 .p "are_between" f_are_between := fn_ok F sc_are_between rfl rfl (.inl rfl) (He.glo_ok X G (d.fact 2 (f := .glo "are_between") rfl)) (F.bindsN fun _ _ _ _ _ _ us hl => match us, hl with | [_, _, _], _ => rfl) (b_are_between g F_is_between)
  clear F fd
  obtain ⟨fd, F⟩ := d.def_ 3 rfl
  have F_is_ascending : Fn R.prog w K mg base 1 1 .p "is_ascending" f_is_ascending := fn_ok F sc_is_ascending rfl rfl (.inl rfl) (He.glo_ok X G (d.fact 3 (f := .glo "is_ascending") rfl)) (F.bindsN fun _ _ _ _ _ _ us hl => match us, hl with | [_], _ => rfl) (b_is_ascending g)
  clear F fd
  obtain ⟨fd, F⟩ := d.def_ 4 rfl
  have F_is_child : Fn R.prog w K mg base 3 1 .p "is_child" f_is_child := fn_ok F sc_is_child rfl rfl (.inl rfl) (He.glo_ok X G (d.fact 4 (f := .glo "is_child") rfl)) (F.bindsN fun _ _ _ _ _ _ us hl => match us, hl with | [_], _ => rfl) (b_is_child g F_is_between)
  clear F fd
  obtain ⟨fd, F⟩ := d.def_ 5 rfl
  have F_is_queue : Fn R.prog w K mg base 4 1 .p "is_queue" f_is_queue := fn_ok F sc_is_queue rfl rfl (.inl rfl) (He.glo_ok X G (d.fact 5 (f := .glo "is_queue") rfl)) (F.bindsN fun _ _ _ _ _ _ us hl => match us, hl with | [_], _ => rfl) (b_is_queue g F_is_child)
  clear F fd
  obtain ⟨fd, F⟩ := d.def_ 6 rfl
  have F_check_queue : Fn R.prog w K mg base 5 1 .p "check_queue" f_check_queue := fn_ok F sc_check_queue rfl rfl (.inl rfl) (He.glo_ok X G (d.fact 6 (f := .glo "check_queue") rfl)) (F.bindsN fun _ _ _ _ _ _ us hl => match us, hl with | [_], _ => rfl) (b_check_queue g F_is_queue)
  clear F fd
  obtain ⟨fd, F⟩ := d.def_ 7 rfl
  have F_is_row_of : Fn R.prog w K mg base 4 2 .p "is_row_of" f_is_row_of := fn_ok F sc_is_row_of rfl rfl (.inl rfl) (He.glo_ok X G (d.fact 7 (f := .glo "is_row_of") rfl)) (F.bindsN fun _ _ _ _ _ _ us hl => match us, hl with | [_, _], _ => rfl) (b_is_row_of g F_are_between)
  clear F fd
  obtain ⟨fd, F⟩ := d.def_ 8 rfl
  have F_is_row : Fn R.prog w K mg base 6 2 .p "is_row" f_is_row := fn_ok F sc_is_row rfl rfl (.inl rfl) (He.glo_ok X G (d.fact 8 (f := .glo "is_row") rfl)) (F.bindsN fun _ _ _ _ _ _ us hl => match us, hl with | [_, _], _ => rfl) (b_is_row g F_check_queue F_is_row_of)
  clear F fd
  obtain ⟨fd, F⟩ := d.def_ 9 rfl
  have F_check_row : Fn R.prog w K mg base 6 2 .p "check_row" f_check_row := fn_ok F sc_check_row rfl rfl (.inl rfl) (He.glo_ok X G (d.fact 9 (f := .glo "check_row") rfl)) (F.bindsN fun _ _ _ _ _ _ us hl => match us, hl with | [_, _], _ => rfl) (b_check_row g F_check_queue F_is_row_of)
  clear F fd
  obtain ⟨fd, F⟩ := d.def_ 10 rfl
  have F_is_served : Fn R.prog w K mg base 3 3 .p "is_served" f_is_served := fn_ok F sc_is_served rfl rfl (.inl rfl) (He.glo_ok X G (d.fact 10 (f := .glo "is_served") rfl)) (F.bindsN fun _ _ _ _ _ _ us hl => match us, hl with | [_, _, _], _ => rfl) (b_is_served g F_is_between)
  clear F fd
  obtain ⟨fd, F⟩ := d.def_ 11 rfl
  have F_is_plan_of : Fn R.prog w K mg base 4 2 .p "is_plan_of" f_is_plan_of := fn_ok F sc_is_plan_of rfl rfl (.inl rfl) (He.glo_ok X G (d.fact 11 (f := .glo "is_plan_of") rfl)) (F.bindsN fun _ _ _ _ _ _ us hl => match us, hl with | [_, _], _ => rfl) (b_is_plan_of g F_is_served)
  clear F fd
  obtain ⟨fd, F⟩ := d.def_ 12 rfl
  have F_is_plan : Fn R.prog w K mg base 6 2 .p "is_plan" f_is_plan := fn_ok F sc_is_plan rfl rfl (.inl rfl) (He.glo_ok X G (d.fact 12 (f := .glo "is_plan") rfl)) (F.bindsN fun _ _ _ _ _ _ us hl => match us, hl with | [_, _], _ => rfl) (b_is_plan g F_check_queue F_is_plan_of)
  clear F fd
  obtain ⟨fd, F⟩ := d.def_ 13 rfl
  have F_ends_by : Fn R.prog w K mg base 1 2 .f "ends_by" f_ends_by := fn_ok F sc_ends_by rfl rfl (.inr rfl) (He.glo_ok X G (d.fact 13 (f := .glo "ends_by") rfl)) (F.bindsN fun _ _ _ _ _ _ us hl => match us, hl with | [_, _], _ => rfl) (b_ends_by g)
  clear F fd
  obtain ⟨fd, F⟩ := d.def_ 14 rfl
  have F_ends_of : Fn R.prog w K mg base 7 2 .p "ends_of" f_ends_of := fn_ok F sc_ends_of rfl rfl (.inl rfl) (He.glo_ok X G (d.fact 14 (f := .glo "ends_of") rfl)) (F.bindsN fun _ _ _ _ _ _ us hl => match us, hl with | [_, _], _ => rfl) (b_ends_of g F_check_row F_ends_by)
  clear F fd
  obtain ⟨fd, F⟩ := d.def_ 15 rfl
  have F_late_by : Fn R.prog w K mg base 2 2 .f "late_by" f_late_by := fn_ok F sc_late_by rfl rfl (.inr rfl) (He.glo_ok X G (d.fact 15 (f := .glo "late_by") rfl)) (F.bindsN fun _ _ _ _ _ _ us hl => match us, hl with | [_, _], _ => rfl) (b_late_by g F_ends_by)
  clear F fd
  obtain ⟨fd, F⟩ := d.def_ 16 rfl
  have F_late_in : Fn R.prog w K mg base 7 2 .p "late_in" f_late_in := fn_ok F sc_late_in rfl rfl (.inl rfl) (He.glo_ok X G (d.fact 16 (f := .glo "late_in") rfl)) (F.bindsN fun _ _ _ _ _ _ us hl => match us, hl with | [_, _], _ => rfl) (b_late_in g F_check_row F_late_by)
  clear F fd
  obtain ⟨fd, F⟩ := d.def_ 17 rfl
  have F_is_all : Fn R.prog w K mg base 5 2 .p "is_all" f_is_all := fn_ok F sc_is_all rfl rfl (.inl rfl) (He.glo_ok X G (d.fact 17 (f := .glo "is_all") rfl)) (F.bindsN fun _ _ _ _ _ _ us hl => match us, hl with | [_, _], _ => rfl) (b_is_all g F_is_row_of)
  clear F fd
  obtain ⟨fd, F⟩ := d.def_ 18 rfl
  have F_plan_of : Fn R.prog w K mg base 1 1 .p "plan_of" f_plan_of := fn_ok F sc_plan_of rfl rfl (.inl rfl) (He.glo_ok X G (d.fact 18 (f := .glo "plan_of") rfl)) (F.bindsN fun _ _ _ _ _ _ us hl => match us, hl with | [_], _ => rfl) (b_plan_of g)
  clear F fd
  obtain ⟨fd, F⟩ := d.def_ 19 rfl
  have F_need_in : Fn R.prog w K mg base 1 4 .p "need_in" f_need_in := fn_ok F sc_need_in rfl rfl (.inl rfl) (He.glo_ok X G (d.fact 19 (f := .glo "need_in") rfl)) (F.bindsN fun _ _ _ _ _ _ us hl => match us, hl with | [_, _, _, _], _ => rfl) (b_need_in g)
  clear F fd
  obtain ⟨fd, F⟩ := d.def_ 20 rfl
  have F_span_of : Fn R.prog w K mg base 2 2 .p "span_of" f_span_of := fn_ok F sc_span_of rfl rfl (.inl rfl) (He.glo_ok X G (d.fact 20 (f := .glo "span_of") rfl)) (F.bindsN fun _ _ _ _ _ _ us hl => match us, hl with | [_, _], _ => rfl) (b_span_of g F_need_in)
  clear F fd
  obtain ⟨fd, F⟩ := d.def_ 21 rfl
  have F_can_plan : Fn R.prog w K mg base 3 1 .p "can_plan" f_can_plan := fn_ok F sc_can_plan rfl rfl (.inl rfl) (He.glo_ok X G (d.fact 21 (f := .glo "can_plan") rfl)) (F.bindsN fun _ _ _ _ _ _ us hl => match us, hl with | [_], _ => rfl) (b_can_plan g F_span_of)
  clear F fd
  obtain ⟨fd, F⟩ := d.def_ 22 rfl
  have F_plan_told : Fn R.prog w K mg base 6 1 .p "plan_told" f_plan_told := fn_ok F sc_plan_told rfl rfl (.inl rfl) (He.glo_ok X G (d.fact 22 (f := .glo "plan_told") rfl)) (F.bindsN fun _ _ _ _ _ _ us hl => match us, hl with | [_], _ => rfl) (b_plan_told g F_check_queue F_plan_of F_span_of)
  clear F fd
  obtain ⟨fd, F⟩ := d.def_ 23 rfl
  have F_is_whole_plan : Fn R.prog w K mg base 1 2 .p "is_whole_plan" f_is_whole_plan := fn_ok F sc_is_whole_plan rfl rfl (.inl rfl) (He.glo_ok X G (d.fact 23 (f := .glo "is_whole_plan") rfl)) (F.bindsN fun _ _ _ _ _ _ us hl => match us, hl with | [_, _], _ => rfl) (b_is_whole_plan g)
  clear F fd
  obtain ⟨fd, F⟩ := d.def_ 24 rfl
  have F_shows_plan : Fn R.prog w K mg base 6 2 .p "shows_plan" f_shows_plan := fn_ok F sc_shows_plan rfl rfl (.inl rfl) (He.glo_ok X G (d.fact 24 (f := .glo "shows_plan") rfl)) (F.bindsN fun _ _ _ _ _ _ us hl => match us, hl with | [_, _], _ => rfl) (b_shows_plan g F_check_queue F_is_plan_of F_is_whole_plan F_is_integer F_need_in)
  clear F fd
  obtain ⟨fd, F⟩ := d.def_ 25 rfl
  have F_lots_of : Fn R.prog w K mg base 1 1 .f "lots_of" f_lots_of := fn_ok F sc_lots_of rfl rfl (.inr rfl) (He.glo_ok X G (d.fact 25 (f := .glo "lots_of") rfl)) (F.bindsN fun _ _ _ _ _ _ us hl => match us, hl with | [_], _ => rfl) (b_lots_of g)
  clear F fd
  obtain ⟨fd, F⟩ := d.def_ 26 rfl
  have F_picked : Fn R.prog w K mg base 1 2 .p "picked" f_picked := fn_ok F sc_picked rfl rfl (.inl rfl) (He.glo_ok X G (d.fact 26 (f := .glo "picked") rfl)) (F.bindsN fun _ _ _ _ _ _ us hl => match us, hl with | [_, _], _ => rfl) (b_picked g)
  clear F fd
  obtain ⟨fd, F⟩ := d.def_ 27 rfl
  have F_most_lot : Fn R.prog w K mg base 4 1 .p "most_lot" f_most_lot := fn_ok F sc_most_lot rfl rfl (.inl rfl) (He.glo_ok X G (d.fact 27 (f := .glo "most_lot") rfl)) (F.bindsN fun _ _ _ _ _ _ us hl => match us, hl with | [_], _ => rfl) (b_most_lot g F_lots_of F_picked F_can_plan)
  clear F fd
  obtain ⟨fd, F⟩ := d.def_ 28 rfl
  have F_most_planned : Fn R.prog w K mg base 6 1 .p "most_planned" f_most_planned := fn_ok F sc_most_planned rfl rfl (.inl rfl) (He.glo_ok X G (d.fact 28 (f := .glo "most_planned") rfl)) (F.bindsN fun _ _ _ _ _ _ us hl => match us, hl with | [_], _ => rfl) (b_most_planned g F_check_queue F_most_lot)
  clear F fd
  obtain ⟨fd, F⟩ := d.def_ 29 rfl
  have F_shows_most_planned : Fn R.prog w K mg base 6 2 .p "shows_most_planned" f_shows_most_planned := fn_ok F sc_shows_most_planned rfl rfl (.inl rfl) (He.glo_ok X G (d.fact 29 (f := .glo "shows_most_planned") rfl)) (F.bindsN fun _ _ _ _ _ _ us hl => match us, hl with | [_, _], _ => rfl) (b_shows_most_planned g F_check_queue F_is_between F_are_between F_is_ascending F_picked F_can_plan F_most_lot)
  clear F fd
  obtain ⟨fd, F⟩ := d.def_ 30 rfl
  have F_least_hurry : Fn R.prog w K mg base 6 1 .p "least_hurry" f_least_hurry := fn_ok F sc_least_hurry rfl rfl (.inl rfl) (He.glo_ok X G (d.fact 30 (f := .glo "least_hurry") rfl)) (F.bindsN fun _ _ _ _ _ _ us hl => match us, hl with | [_], _ => rfl) (b_least_hurry g F_check_queue F_span_of)
  clear F fd
  obtain ⟨fd, F⟩ := d.def_ 31 rfl
  have F_rows_of : Fn R.prog w K mg base 1 1 .p "rows_of" f_rows_of := fn_ok F sc_rows_of rfl rfl (.inl rfl) (He.glo_ok X G (d.fact 31 (f := .glo "rows_of") rfl)) (F.bindsN fun _ _ _ _ _ _ us hl => match us, hl with | [_], _ => rfl) (b_rows_of g)
  clear F fd
  obtain ⟨fd, F⟩ := d.def_ 32 rfl
  have F_lateness : Fn R.prog w K mg base 1 3 .p "lateness" f_lateness := fn_ok F sc_lateness rfl rfl (.inl rfl) (He.glo_ok X G (d.fact 32 (f := .glo "lateness") rfl)) (F.bindsN fun _ _ _ _ _ _ us hl => match us, hl with | [_, _, _], _ => rfl) (b_lateness g)
  clear F fd
  obtain ⟨fd, F⟩ := d.def_ 33 rfl
  have F_waits_in : Fn R.prog w K mg base 1 3 .p "waits_in" f_waits_in := fn_ok F sc_waits_in rfl rfl (.inl rfl) (He.glo_ok X G (d.fact 33 (f := .glo "waits_in") rfl)) (F.bindsN fun _ _ _ _ _ _ us hl => match us, hl with | [_, _, _], _ => rfl) (b_waits_in g)
  clear F fd
  have L_best := L_best (P := R.prog) (w := w) (base := base) g F_late_by F_lateness F_waits_in
  obtain ⟨fd, F⟩ := d.def_ 34 rfl
  have F_best_rows : Fn R.prog w K mg base 4 2 .p "best_rows" f_best_rows := fn_ok F sc_best_rows rfl rfl (.inl rfl) (He.glo_ok X G (d.fact 34 (f := .glo "best_rows") rfl)) (F.bindsN fun _ _ _ _ _ _ us hl => match us, hl with | [_, _], _ => rfl) (b_best_rows g L_best F_rows_of F_ends_by)
  clear F fd
  obtain ⟨fd, F⟩ := d.def_ 35 rfl
  have M := mk_of (p := ("fewest_late", none)) (base := base) (mg := mg) (T := 299) (q := "fewest_late.<locals>.<lambda>") F (Nat.eq_of_beq_eq_true m0) (tb _ (List.mem_map.mpr ⟨("fewest_late", none), by unfold tfs; simp, rfl⟩)) (by unfold tabs; simp) (by decide +kernel)
  have F_fewest_late : Fn R.prog w K mg base 5 1 .p "fewest_late" f_fewest_late := fn_ok F sc_fewest_late rfl rfl (.inl rfl) (He.glo_ok X G (d.fact 35 (f := .glo "fewest_late") rfl)) (F.bindsN fun _ _ _ _ _ _ us hl => match us, hl with | [_], _ => rfl) (b_fewest_late g M F_best_rows)
  clear M F fd
  obtain ⟨fd, F⟩ := d.def_ 36 rfl
  have M := mk_of (p := ("least_lateness", none)) (base := base) (mg := mg) (T := 341) (q := "least_lateness.<locals>.<lambda>") F (Nat.eq_of_beq_eq_true m1) (tb _ (List.mem_map.mpr ⟨("least_lateness", none), by unfold tfs; simp, rfl⟩)) (by unfold tabs; simp) (by decide +kernel)
  have F_least_lateness : Fn R.prog w K mg base 5 1 .p "least_lateness" f_least_lateness := fn_ok F sc_least_lateness rfl rfl (.inl rfl) (He.glo_ok X G (d.fact 36 (f := .glo "least_lateness") rfl)) (F.bindsN fun _ _ _ _ _ _ us hl => match us, hl with | [_], _ => rfl) (b_least_lateness g M F_best_rows)
  clear M F fd
  obtain ⟨fd, F⟩ := d.def_ 37 rfl
  have M := mk_of (p := ("least_waiting", none)) (base := base) (mg := mg) (T := 362) (q := "least_waiting.<locals>.<lambda>") F (Nat.eq_of_beq_eq_true m2) (tb _ (List.mem_map.mpr ⟨("least_waiting", none), by unfold tfs; simp, rfl⟩)) (by unfold tabs; simp) (by decide +kernel)
  have F_least_waiting : Fn R.prog w K mg base 5 1 .p "least_waiting" f_least_waiting := fn_ok F sc_least_waiting rfl rfl (.inl rfl) (He.glo_ok X G (d.fact 37 (f := .glo "least_waiting") rfl)) (F.bindsN fun _ _ _ _ _ _ us hl => match us, hl with | [_], _ => rfl) (b_least_waiting g M F_best_rows)
  clear M F fd
  have L_pair := L_pair (P := R.prog) (w := w) (base := base) g F_late_by F_ends_by F_lateness F_waits_in
  obtain ⟨fd, F⟩ := d.def_ 38 rfl
  have F_is_pair : Fn R.prog w K mg base 6 4 .p "is_pair" f_is_pair := fn_ok F sc_is_pair rfl rfl (.inl rfl) (He.glo_ok X G (d.fact 38 (f := .glo "is_pair") rfl)) (F.bindsN fun _ _ _ _ _ _ us hl => match us, hl with | [_, _, _, _], _ => rfl) (b_is_pair g L_pair F_is_between F_is_all)
  clear F fd
  obtain ⟨fd, F⟩ := d.def_ 39 rfl
  have F_row_told : Fn R.prog w K mg base 6 1 .p "row_told" f_row_told := fn_ok F sc_row_told rfl rfl (.inl rfl) (He.glo_ok X G (d.fact 39 (f := .glo "row_told") rfl)) (F.bindsN fun _ _ _ _ _ _ us hl => match us, hl with | [_], _ => rfl) (b_row_told g F_check_queue F_fewest_late)
  clear F fd
  obtain ⟨fd, F⟩ := d.def_ 40 rfl
  have F_shows_row : Fn R.prog w K mg base 6 2 .p "shows_row" f_shows_row := fn_ok F sc_shows_row rfl rfl (.inl rfl) (He.glo_ok X G (d.fact 40 (f := .glo "shows_row") rfl)) (F.bindsN fun _ _ _ _ _ _ us hl => match us, hl with | [_, _], _ => rfl) (b_shows_row g F_check_queue F_fewest_late F_is_all F_late_by)
  clear F fd
  obtain ⟨fd, F⟩ := d.def_ 41 rfl
  have F_least_late : Fn R.prog w K mg base 6 1 .p "least_late" f_least_late := fn_ok F sc_least_late rfl rfl (.inl rfl) (He.glo_ok X G (d.fact 41 (f := .glo "least_late") rfl)) (F.bindsN fun _ _ _ _ _ _ us hl => match us, hl with | [_], _ => rfl) (b_least_late g F_check_queue F_fewest_late)
  clear F fd
  obtain ⟨fd, F⟩ := d.def_ 42 rfl
  have M := mk_of (p := ("shows_least_late", none)) (base := base) (mg := mg) (T := 334) (q := "shows_least_late.<locals>.<lambda>") F (Nat.eq_of_beq_eq_true m3) (tb _ (List.mem_map.mpr ⟨("shows_least_late", none), by unfold tfs; simp, rfl⟩)) (by unfold tabs; simp) (by decide +kernel)
  have F_shows_least_late : Fn R.prog w K mg base 7 2 .p "shows_least_late" f_shows_least_late := fn_ok F sc_shows_least_late rfl rfl (.inl rfl) (He.glo_ok X G (d.fact 42 (f := .glo "shows_least_late") rfl)) (F.bindsN fun _ _ _ _ _ _ us hl => match us, hl with | [_, _], _ => rfl) (b_shows_least_late g M F_check_queue F_fewest_late F_is_pair)
  clear M F fd
  obtain ⟨fd, F⟩ := d.def_ 43 rfl
  have F_least_greatest : Fn R.prog w K mg base 6 1 .p "least_greatest" f_least_greatest := fn_ok F sc_least_greatest rfl rfl (.inl rfl) (He.glo_ok X G (d.fact 43 (f := .glo "least_greatest") rfl)) (F.bindsN fun _ _ _ _ _ _ us hl => match us, hl with | [_], _ => rfl) (b_least_greatest g F_check_queue F_least_lateness)
  clear F fd
  obtain ⟨fd, F⟩ := d.def_ 44 rfl
  have M := mk_of (p := ("shows_least_greatest", none)) (base := base) (mg := mg) (T := 355) (q := "shows_least_greatest.<locals>.<lambda>") F (Nat.eq_of_beq_eq_true m4) (tb _ (List.mem_map.mpr ⟨("shows_least_greatest", none), by unfold tfs; simp, rfl⟩)) (by unfold tabs; simp) (by decide +kernel)
  have F_shows_least_greatest : Fn R.prog w K mg base 7 2 .p "shows_least_greatest" f_shows_least_greatest := fn_ok F sc_shows_least_greatest rfl rfl (.inl rfl) (He.glo_ok X G (d.fact 44 (f := .glo "shows_least_greatest") rfl)) (F.bindsN fun _ _ _ _ _ _ us hl => match us, hl with | [_, _], _ => rfl) (b_shows_least_greatest g M F_check_queue F_least_lateness F_is_pair)
  clear M F fd
  obtain ⟨fd, F⟩ := d.def_ 45 rfl
  have F_least_waits : Fn R.prog w K mg base 6 1 .p "least_waits" f_least_waits := fn_ok F sc_least_waits rfl rfl (.inl rfl) (He.glo_ok X G (d.fact 45 (f := .glo "least_waits") rfl)) (F.bindsN fun _ _ _ _ _ _ us hl => match us, hl with | [_], _ => rfl) (b_least_waits g F_check_queue F_least_waiting)
  clear F fd
  obtain ⟨fd, F⟩ := d.def_ 46 rfl
  have M := mk_of (p := ("shows_least_waits", none)) (base := base) (mg := mg) (T := 376) (q := "shows_least_waits.<locals>.<lambda>") F (Nat.eq_of_beq_eq_true m5) (tb _ (List.mem_map.mpr ⟨("shows_least_waits", none), by unfold tfs; simp, rfl⟩)) (by unfold tabs; simp) (by decide +kernel)
  have F_shows_least_waits : Fn R.prog w K mg base 7 2 .p "shows_least_waits" f_shows_least_waits := fn_ok F sc_shows_least_waits rfl rfl (.inl rfl) (He.glo_ok X G (d.fact 46 (f := .glo "shows_least_waits") rfl)) (F.bindsN fun _ _ _ _ _ _ us hl => match us, hl with | [_, _], _ => rfl) (b_shows_least_waits g M F_check_queue F_least_waiting F_is_pair)
  clear M F fd
  obtain ⟨fd, F⟩ := d.def_ 47 rfl
  have F_swapped : Fn R.prog w K mg base 7 3 .p "swapped" f_swapped := fn_ok F sc_swapped rfl rfl (.inl rfl) (He.glo_ok X G (d.fact 47 (f := .glo "swapped") rfl)) (F.bindsN fun _ _ _ _ _ _ us hl => match us, hl with | [_, _, _], _ => rfl) (b_swapped g F_check_row F_is_all F_is_between)
  clear F fd
  have L_looks := L_looks (P := R.prog) (w := w) (base := base) g F_is_row F_is_plan F_ends_of F_late_in F_plan_told F_shows_plan F_most_planned F_shows_most_planned F_least_hurry F_row_told F_shows_row F_least_late F_shows_least_late F_least_greatest F_shows_least_greatest F_least_waits F_shows_least_waits F_swapped
  obtain ⟨fd, F⟩ := d.def_ 48 rfl
  have F__law_caught : Fn R.prog w K mg base 9 1 .p "_law_caught" f__law_caught := fn_ok F sc__law_caught rfl rfl (.inl rfl) (He.glo_ok X G (d.fact 48 (f := .glo "_law_caught") rfl)) (F.bindsN fun _ _ _ _ _ _ us hl => match us, hl with | [_], _ => rfl) (b__law_caught g L_looks)
  clear F fd
  obtain ⟨fd, F⟩ := d.def_ 49 rfl
  have F__law_is_raised : FnG R.prog w K mg base 10 2 .p "_law_is_raised" f__law_is_raised := fnG_ok F sc__law_is_raised rfl rfl (He.glo_ok X G (d.fact 49 (f := .glo "_law_is_raised") rfl)) (F.bindsN fun _ _ _ _ _ _ us hl => match us, hl with | [_, _], _ => rfl) (b__law_is_raised g F__law_caught)
  clear F fd
  obtain ⟨fd, F⟩ := d.def_ 50 rfl
  have F__law_pot : Fn R.prog w K mg base 1 2 .f "_law_pot" f__law_pot := fn_ok F sc__law_pot rfl rfl (.inr rfl) (He.glo_ok X G (d.fact 50 (f := .glo "_law_pot") rfl)) (F.bindsN fun _ _ _ _ _ _ us hl => match us, hl with | [_, _], _ => rfl) (b__law_pot g)
  clear F fd
  obtain ⟨fd, F⟩ := d.def_ 51 rfl
  have F__law_cells : Fn R.prog w K mg base 1 2 .f "_law_cells" f__law_cells := fn_ok F sc__law_cells rfl rfl (.inr rfl) (He.glo_ok X G (d.fact 51 (f := .glo "_law_cells") rfl)) (F.bindsN fun _ _ _ _ _ _ us hl => match us, hl with | [_, _], _ => rfl) (b__law_cells g)
  clear F fd
  obtain ⟨fd, F⟩ := d.def_ 52 rfl
  have F__law_take : FnM R.prog w K mg base 1 2 "_law_take" f__law_take := fnM_ok F sc__law_take rfl rfl (He.glo_ok X G (d.fact 52 (f := .glo "_law_take") rfl)) (F.bindsN fun _ _ _ _ _ _ us hl => match us, hl with | [_, _], _ => rfl) (b__law_take g)
  clear F fd
  obtain ⟨fd, F⟩ := d.def_ 53 rfl
  have F__law_of : FnM R.prog w K mg base 2 2 "_law_of" f__law_of := fnM_ok F sc__law_of rfl rfl (He.glo_ok X G (d.fact 53 (f := .glo "_law_of") rfl)) (F.bindsN fun _ _ _ _ _ _ us hl => match us, hl with | [_, _], _ => rfl) (b__law_of g F__law_take)
  clear F fd
  obtain ⟨fd, F⟩ := d.def_ 54 rfl
  have M := mk_of (p := ("_law_right", none)) (base := base) (mg := mg) (T := 432) (q := "_law_right.<locals>.<lambda>") F (Nat.eq_of_beq_eq_true m6) (tb _ (List.mem_map.mpr ⟨("_law_right", none), by unfold tfs; simp, rfl⟩)) (by unfold tabs; simp) (by decide +kernel)
  have F__law_right : FnMG R.prog w K mg base 11 1 "_law_right" f__law_right := fnMG_ok F sc__law_right rfl rfl (He.glo_ok X G (d.fact 54 (f := .glo "_law_right") rfl)) (F.bindsN fun _ _ _ _ _ _ us hl => match us, hl with | [_], _ => rfl) (b__law_right g M F__law_of F__law_is_raised)
  clear M F fd
  have F := FL
  exact fnG_at F sc_law rfl rfl (b_law g F__law_cells F__law_pot F__law_right)
end
end PG
set_option maxHeartbeats 2000000
/-! PN 0: what the readings come to at whole numbers. -/
namespace PD
open PySem PySem.Spec PyProof.Rows L2
theorem seq_next {m n : MS} {e e' : En} (h : m e = .ok (.next e')) : mSeq m n e = n e' := by
  unfold mSeq
  rw [h]
  rfl
theorem seq_ret {m n : MS} {e : En} {x : PyData} (h : m e = .ok (.ret x)) : mSeq m n e = .ok (.ret x) := by
  unfold mSeq
  rw [h]
  rfl
theorem op2_ok {f : PyData → PyData → Option PyData} {a b : ME} {e : En} {x y z : PyData} (ha : a e = .ok x) (hb : b e = .ok y) (hf : f x y = some z) : mOp2 f a b e = .ok z := by
  unfold mOp2
  rw [ha]
  simp only [Res.bind]
  rw [hb]
  simp only [Res.bind]
  rw [hf]
  rfl
theorem opL_ok {f : List PyData → Option PyData} {a : ME} {e : En} {x z : PyData} (ha : a e = .ok x) (hf : f [x] = some z) : mOpL f (mCons a mNil) e = .ok z := by
  unfold mOpL mCons mNil
  rw [ha]
  simp only [Res.bind]
  rw [hf]
  rfl
theorem var_ok {e : En} {i : Nat} {x : PyData} (h : e[i]? = some x) : mVar i e = .ok x := by
  unfold mVar
  rw [h]
  rfl
theorem con_ok {e : En} {x : PyData} : mC x e = .ok x := rfl
theorem set_ok {a : ME} {e : En} {i : Nat} {x : PyData} (h : a e = .ok x) : mSet i a e = .ok (.next (e.set i x)) := by
  unfold mSet
  rw [h]
  rfl
theorem retM_ok {a : ME} {e : En} {x p : PyData} (h : a e = .ok x) (h0 : e[0]? = some p) : mRetM a e = .ok (.ret (.tuple [x, p])) := by
  unfold mRetM
  rw [h]
  simp only [Res.bind]
  rw [h0]
  rfl
theorem nth3_0 (x y z : PyData) : nth [x, y, z] 0 = some x := rfl
theorem nth3_1 (x y z : PyData) : nth [x, y, z] 1 = some y := rfl
theorem nth3_2 (x y z : PyData) : nth [x, y, z] 2 = some z := rfl
theorem ix3_0 : ixN 3 0 = some 0 := rfl
theorem ix3_2 : ixN 3 2 = some 2 := rfl
theorem nth4 (x y z w : PyData) {i : Int} (h0 : 0 ≤ i) (h4 : i < 4) : ∃ v, nth [x, y, z, w] i = some v ∧ (v = x ∨ v = y ∨ v = z ∨ v = w) := by
  have : i = 0 ∨ i = 1 ∨ i = 2 ∨ i = 3 := by omega
  rcases this with rfl | rfl | rfl | rfl
  · exact ⟨x, rfl, .inl rfl⟩
  · exact ⟨y, rfl, .inr (.inl rfl)⟩
  · exact ⟨z, rfl, .inr (.inr (.inl rfl))⟩
  · exact ⟨w, rfl, .inr (.inr (.inr rfl))⟩
theorem gd_ints (f : PyData → PyData → Option PyData) (i j : Int) : gd f (.int i) (.int j) = f (.int i) (.int j) := rfl
theorem gt_ints (i j : Int) : fGt (.int i) (.int j) = some (.bool (decide (j < i))) := rfl
theorem ge_ints (i j : Int) : fGe (.int i) (.int j) = some (.bool (!decide (i < j))) := rfl
theorem lt_ints (i j : Int) : fLt (.int i) (.int j) = some (.bool (decide (i < j))) := rfl
theorem add_ints (i j : Int) : fAdd (.int i) (.int j) = some (.int (i + j)) := rfl
theorem mulT_ints {i j : Int} (h : mulOk i j = true) : fMulT (.int i) (.int j) = some (.int (i * j)) := by
  unfold fMulT fMul
  simp only [h]
theorem mod_ints {i j : Int} (h : j ≠ 0) : fMod (.int i) (.int j) = some (.int (i.fmod j)) := by
  unfold fMod
  simp only [decide_eq_false h]
theorem fdiv_ints {i j : Int} (h : 0 < j) (h2 : j < 1073741824) : fFdiv (.int i) (.int j) = some (.int (i.fdiv j)) := by
  unfold fFdiv
  simp only [decide_eq_false (show ¬ j = 0 by omega), decide_eq_true (show j.natAbs < 1073741824 by omega)]
  rfl
theorem mulOk_left {i j : Int} (h : -1152921504606846976 ≤ i) (h2 : i < 1152921504606846976) : mulOk i j = true := by
  unfold mulOk smallI
  rw [decide_eq_true (show -(18446744073709551616) < i by omega), decide_eq_true (show i < 18446744073709551616 by omega)]
  rfl
theorem mulOk_right {i j : Int} (h : -1152921504606846976 ≤ j) (h2 : j < 1152921504606846976) : mulOk i j = true := by
  unfold mulOk
  have e : smallI j = true := by
    unfold smallI
    rw [decide_eq_true (show -(18446744073709551616) < j by omega), decide_eq_true (show j < 18446744073709551616 by omega)]
    rfl
  rw [e, Bool.or_true, Bool.true_or]
theorem log2_62 {n : Nat} (h : n < 4611686018427387904) : n.log2 ≤ 1000 := by
  by_cases h0 : n = 0
  · subst h0; simp
  · have := (Nat.log2_lt (k := 62) h0).mpr h
    omega
theorem log2_lt {n k : Nat} (h : n < 2 ^ k) : n.log2 ≤ k := by
  by_cases h0 : n = 0
  · subst h0; simp
  · have := (Nat.log2_lt h0).mpr h
    omega
theorem pow_int {i : Int} {n : Nat} (h : (decide (0 ≤ (n : Int)) && decide (((i.natAbs.log2 + 1 : Nat) : Int) * (n : Int) ≤ 134217728)) = true) : fPow (.int i) (.int n) = some (.int (i ^ n)) := by
  show (match (decide (0 ≤ (n : Int)) && decide (((i.natAbs.log2 + 1 : Nat) : Int) * (n : Int) ≤ 134217728)) with
    | true => some (PyData.int (powN i (n : Int).toNat))
    | false => none) = _
  rw [h, powN_eq, Int.toNat_natCast]
theorem pow3_int {i : Int} (h1 : i.natAbs.log2 ≤ 1000) : fPow (.int i) (.int 3) = some (.int (i ^ 3)) :=
  pow_int (n := 3) (Bool.and_eq_true_iff.mpr ⟨rfl, decide_eq_true (by omega)⟩)
end PD
set_option maxHeartbeats 2000000
/-! PN 1: draws. -/
namespace PG
open PySem PySem.Spec PyProof.Rows L2 PD
theorem okLen4 (x y z w : PyData) : okLen [x, y, z, w] = true := rfl
theorem take_ok {a b c u : Int} (ha : 0 ≤ a) (hb : 0 ≤ b) (hb2 : b < 2305843009213693952) (hc : 0 ≤ c) (hc2 : c ≤ 1000) (hu : 1 ≤ u) (hu2 : u ≤ 1000) :
    ∃ d a' c', f__law_take [.list [.int a, .int b, .int c], .int u] = .ok (.tuple [.int d, .list [.int a', .int b, .int c']]) ∧ 0 ≤ d ∧ d < u ∧ 0 ≤ a' ∧ 0 ≤ c' ∧ c' ≤ c + 1 := by
  have u0 : u ≠ 0 := by omega
  by_cases h : a > 0
  · refine ⟨a.fmod u, a.fdiv u, c, ?_, ?_⟩
    · unfold f__law_take runM m__law_take
      simp [mSeq, mIfS, mTest, mOp2, mOpL, mVar, mC, mCons, mNil, mSet, mPutM, mRetM, Res.bind, Res.opt, nth3_0, gd_ints, gt_ints, fIx, mod_ints u0, fdiv_ints (show 0 < u by omega) (show u < 1073741824 by omega), fInt, asB, asI, asL, h, ix3_0]
    · rw [Int.fmod_eq_emod_of_nonneg _ (by omega), Int.fdiv_eq_ediv_of_nonneg _ (by omega)]
      exact ⟨Int.emod_nonneg _ u0, Int.emod_lt_of_pos _ (by omega), Int.ediv_nonneg (by omega) (by omega), hc, by omega⟩
  · obtain ⟨p, hp, hp1, hp2⟩ : ∃ p : Int, nth [.int 2147483647, .int 2147483629, .int 2147483587, .int 2147483579] ((c + 1).fmod 4) = some (.int p) ∧ 0 < p ∧ p < 2147483648 := by
      have e := Int.fmod_eq_emod_of_nonneg (c + 1) (b := 4) (by omega)
      obtain ⟨v, h1, h2⟩ := nth4 (.int 2147483647) (.int 2147483629) (.int 2147483587) (.int 2147483579) (i := (c + 1).fmod 4) (by omega) (by omega)
      rcases h2 with rfl | rfl | rfl | rfl
      · exact ⟨_, h1, by omega, by omega⟩
      · exact ⟨_, h1, by omega, by omega⟩
      · exact ⟨_, h1, by omega, by omega⟩
      · exact ⟨_, h1, by omega, by omega⟩
    have p0 : p ≠ 0 := by omega
    have sq : (c + 1) * (c + 1) ≤ 1001 * 1001 := Int.mul_le_mul (by omega) (by omega) (by omega) (by omega)
    have sq0 : 0 ≤ (c + 1) * (c + 1) := Int.mul_nonneg (by omega) (by omega)
    have e1 : 145249 * (c + 1) * (c + 1) = 145249 * ((c + 1) * (c + 1)) := by rw [Int.mul_assoc]
    generalize hy : b + 145249 * (c + 1) * (c + 1) + 4113 = y
    have y0 : 0 ≤ y := by omega
    have y1 : y < 4611686018427387904 := by omega
    have yl : y.natAbs.log2 ≤ 1000 := log2_62 (by omega)
    generalize hz : (y ^ 3).fmod p = z
    have z0 : 0 ≤ z ∧ z < p := by
      rw [← hz, Int.fmod_eq_emod_of_nonneg _ (by omega)]
      exact ⟨Int.emod_nonneg _ p0, Int.emod_lt_of_pos _ hp1⟩
    refine ⟨((z * (z.fmod 10007 + 3315 * (c + 1))).fdiv 307).fmod u, a, c + 1, ?_, ?_⟩
    · have s0 : (mIfS (mTest (mOp2 (gd fGt) (mOp2 fIx (mVar 0) (mC (.int 0))) (mC (.int 0))) asB) (mSeq (mSet 4 (mOp2 fMod (mOpL fInt (mCons (mOp2 fIx (mVar 0) (mC (.int 0))) mNil)) (mVar 1))) (mSeq (mPutM (mOp2 fFdiv (mOp2 fIx (mVar 0) (mC (.int 0))) (mVar 1)) (mC (.int 0))) (mRetM (mVar 4)))) mNext) [.list [.int a, .int b, .int c], .int u, .none, .none, .none] = .ok (.next [.list [.int a, .int b, .int c], .int u, .none, .none, .none]) := by
        simp [mIfS, mTest, mOp2, mVar, mC, mNext, Res.bind, Res.opt, nth3_0, gd_ints, gt_ints, fIx, asB, h]
      have s1 : (mPutM (mOp2 fAdd (mOp2 fIx (mVar 0) (mC (.int 2))) (mC (.int 1))) (mC (.int 2))) [.list [.int a, .int b, .int c], .int u, .none, .none, .none] = .ok (.next [.list [.int a, .int b, .int (c + 1)], .int u, .none, .none, .none]) := by
        simp [mPutM, mOp2, mVar, mC, Res.bind, Res.opt, nth3_2, add_ints, fIx, asI, asL, ix3_2]
      have s2 : (mSet 2 (mOp2 fIx (mLst (mCons (mC (.int 2147483647)) (mCons (mC (.int 2147483629)) (mCons (mC (.int 2147483587)) (mCons (mC (.int 2147483579)) mNil))))) (mOp2 fMod (mOpL fInt (mCons (mOp2 fIx (mVar 0) (mC (.int 2))) mNil)) (mC (.int 4))))) [.list [.int a, .int b, .int (c + 1)], .int u, .none, .none, .none] = .ok (.next [.list [.int a, .int b, .int (c + 1)], .int u, .int p, .none, .none]) := by
        simp [mSet, mOp2, mOpL, mVar, mC, mCons, mNil, mLst, okLen4, Res.bind, Res.opt, nth3_2, fIx, mod_ints (show (4 : Int) ≠ 0 by omega), fInt, hp]
      have s3 : (mSet 3 (mOp2 fMod (mOpL fInt (mCons (mOp2 fPow (mOpL fInt (mCons (mOp2 fAdd (mOp2 fAdd (mOp2 fIx (mVar 0) (mC (.int 1))) (mOp2 fMulT (mOp2 fMulT (mC (.int 145249)) (mOp2 fIx (mVar 0) (mC (.int 2)))) (mOp2 fIx (mVar 0) (mC (.int 2))))) (mC (.int 4113))) mNil)) (mC (.int 3))) mNil)) (mVar 2))) [.list [.int a, .int b, .int (c + 1)], .int u, .int p, .none, .none] = .ok (.next [.list [.int a, .int b, .int (c + 1)], .int u, .int p, .int z, .none]) := by
        have v0 : ∀ {i : Int} {v : PyData}, nth [PyData.int a, .int b, .int (c + 1)] i = some v → (mOp2 fIx (mVar 0) (mC (.int i))) [.list [.int a, .int b, .int (c + 1)], .int u, .int p, .none, .none] = .ok v := fun h => op2_ok (var_ok rfl) con_ok h
        have t1 := op2_ok (op2_ok (v0 (nth3_1 _ _ _)) (op2_ok (op2_ok con_ok (v0 (nth3_2 _ _ _)) (mulT_ints (mulOk_left (i := 145249) (j := c + 1) (by omega) (by omega)))) (v0 (nth3_2 _ _ _)) (mulT_ints (mulOk_left (i := 145249 * (c + 1)) (j := c + 1) (by omega) (by omega)))) (add_ints _ _)) (con_ok (x := .int 4113)) (add_ints _ _)
        rw [hy] at t1
        have t2 := op2_ok (opL_ok (f := fInt) (op2_ok (opL_ok (f := fInt) t1 rfl) con_ok (pow3_int yl)) rfl) (var_ok (i := 2) rfl) (mod_ints p0)
        rw [hz] at t2
        exact set_ok t2
      have s4 : (mRetM (mOp2 fMod (mOpL fInt (mCons (mOp2 fFdiv (mOp2 fMulT (mVar 3) (mOp2 fAdd (mOp2 fMod (mOpL fInt (mCons (mVar 3) mNil)) (mC (.int 10007))) (mOp2 fMulT (mC (.int 3315)) (mOp2 fIx (mVar 0) (mC (.int 2)))))) (mC (.int 307))) mNil)) (mVar 1))) [.list [.int a, .int b, .int (c + 1)], .int u, .int p, .int z, .none] = .ok (.ret (.tuple [.int (((z * (z.fmod 10007 + 3315 * (c + 1))).fdiv 307).fmod u), .list [.int a, .int b, .int (c + 1)]])) := by
        simp [mRetM, mOp2, mOpL, mVar, mC, mCons, mNil, Res.bind, Res.opt, nth3_2, add_ints, fIx, mod_ints u0, mod_ints (show (10007 : Int) ≠ 0 by omega), fInt, fdiv_ints (show (0 : Int) < 307 by omega) (by omega), mulT_ints (mulOk_left (i := 3315) (j := c + 1) (by omega) (by omega)), mulT_ints (mulOk_left (i := z) (j := z.fmod 10007 + 3315 * (c + 1)) (by omega) (by omega))]
      unfold f__law_take runM m__law_take
      have e0 : ([.list [.int a, .int b, .int c], .int u] ++ List.replicate 3 PyData.none) = [.list [.int a, .int b, .int c], .int u, .none, .none, .none] := rfl
      rw [e0]
      rw [seq_next s0, seq_next s1, seq_next s2, seq_next s3, s4]
    · rw [Int.fmod_eq_emod_of_nonneg _ (by omega)]
      exact ⟨Int.emod_nonneg _ u0, Int.emod_lt_of_pos _ (by omega), ha, by omega, by omega⟩
/-- a pot after at most k mixed numbers -/
def PotOk (k : Int) (p : List PyData) : Prop := ∃ a b c : Int, p = [.int a, .int b, .int c] ∧ 0 ≤ a ∧ 0 ≤ b ∧ b < 2305843009213693952 ∧ 0 ≤ c ∧ c ≤ k
theorem PotOk.ints {k : Int} {p : List PyData} (h : PotOk k p) : ∃ is : List Int, p = is.map .int := by
  obtain ⟨a, b, c, rfl, _⟩ := h
  exact ⟨[a, b, c], rfl⟩
theorem of_ok {k : Int} {p xs : List PyData} (h : PotOk k p) (hk : k ≤ 1000) (h1 : 1 ≤ xs.length) (h2 : xs.length ≤ 1000) : ∃ x p', f__law_of [.list p, .list xs] = .ok (.tuple [x, .list p']) ∧ x ∈ xs ∧ PotOk (k + 1) p' := by
  obtain ⟨a, b, c, rfl, ha, hb, hb2, hc, hc2⟩ := h
  obtain ⟨d, a', c', e, d1, d2, a1, c1, c2⟩ := take_ok (u := (xs.length : Int)) ha hb hb2 hc (by omega) (by omega) (by omega)
  obtain ⟨n, rfl⟩ := Int.eq_ofNat_of_zero_le d1
  have hn : n < xs.length := by omega
  refine ⟨xs[n], [.int a', .int b, .int c'], ?_, List.getElem_mem hn, a', b, c', rfl, a1, hb, hb2, c1, by omega⟩
  have e2 : fIx (.list xs) (.int (n : Nat)) = some xs[n] := by
    show nth xs (Int.ofNat n) = _
    unfold nth
    exact List.getElem?_eq_getElem hn
  have e3 : (mOpL fLen (mCons (mVar 1) mNil)) [.list [.int a, .int b, .int c], .list xs] = .ok (.int (xs.length : Nat)) := opL_ok (var_ok rfl) rfl
  unfold f__law_of runM m__law_of mRetIxM
  rw [show ([PyData.list [.int a, .int b, .int c], .list xs] ++ List.replicate 0 PyData.none) = [.list [.int a, .int b, .int c], .list xs] from rfl]
  have e4 : (mCons (mOpL fLen (mCons (mVar 1) mNil)) mNil) [.list [.int a, .int b, .int c], .list xs] = .ok [.int (xs.length : Nat)] := by
    unfold mCons at e3 ⊢
    rw [e3]
    rfl
  rw [e4, var_ok (i := 1) (x := .list xs) rfl]
  simp only [Res.bind, Res.opt, List.getElem?_cons_zero]
  rw [e]
  have e5 : setR (.tuple [.int (n : Nat), .list [.int a', .int b, .int c']]) = some (.int (n : Nat), [.int a', .int b, .int c']) := rfl
  simp only [Res.bind, e5, e2]
theorem par2_ok {a b : ME} {e : En} {i j : Nat} {x y : PyData} (ha : a e = .ok x) (hb : b e = .ok y) : mPar2 i j a b e = .ok (.next ((e.set i x).set j y)) := by
  unfold mPar2
  rw [ha]
  simp only [Res.bind]
  rw [hb]
theorem setM_ok {f : List PyData → Res PyData} {ml : ML} {env : En} {i : Nat} {l x : PyData} {xs p : List PyData} {is : List Int} (h0 : env[0]? = some l) (h1 : ml env = .ok xs) (h2 : f (l :: xs) = .ok (.tuple [x, .list p])) (h3 : p = is.map .int) : mSetM i f ml env = .ok (.next ((env.set 0 (.list p)).set i x)) := by
  unfold mSetM
  rw [h0]
  simp only [Res.opt, Res.bind]
  rw [h1]
  simp only [Res.bind]
  rw [h2]
  have e : setR (.tuple [x, .list p]) = some (x, p) := by
    unfold setR
    subst h3
    simp only [ints_fwd]
  simp only [Res.bind, e]
end PG
set_option maxHeartbeats 0
namespace PG
open PySem PySem.Spec PyProof.Rows L2 PD
def val (r : Res PyData) : PyData := match r with
  | .ok x => x
  | _ => .none
def lstV (r : Res (List PyData)) : List PyData := match r with
  | .ok [.list xs] => xs
  | _ => []
def okL (r : Res PyData) : Bool := match r with
  | .ok (.list _) => true
  | _ => false
theorem val_ok {r : Res PyData} (h : okL r = true) : r = .ok (val r) := by
  unfold okL at h
  split at h
  · rfl
  · cases h
abbrev a1 : ME := (mTup (mCons (mTup (mCons (mC (.int 0)) (mCons (mC (.int 3)) (mCons (mC (.int 9)) mNil)))) (mCons (mTup (mCons (mC (.int 1)) (mCons (mC (.int 1)) (mCons (mC (.int 2)) mNil)))) (mCons (mTup (mCons (mC (.int 0)) (mCons (mC (.int 2)) (mCons (mC (.int 6)) mNil)))) mNil))))
def q1 : PyData := val (a1 [PyData.none, PyData.none, PyData.none, PyData.none, PyData.none, PyData.none, PyData.none, PyData.none, PyData.none, PyData.none, PyData.none, PyData.none, PyData.none])
theorem e1 (p : PyData)  : a1 [p, PyData.none, PyData.none, PyData.none, PyData.none, PyData.none, PyData.none, PyData.none, PyData.none, PyData.none, PyData.none, PyData.none, PyData.none] = a1 [PyData.none, PyData.none, PyData.none, PyData.none, PyData.none, PyData.none, PyData.none, PyData.none, PyData.none, PyData.none, PyData.none, PyData.none, PyData.none] := by kernel_rfl
theorem v1 (p : PyData)  : a1 [p, PyData.none, PyData.none, PyData.none, PyData.none, PyData.none, PyData.none, PyData.none, PyData.none, PyData.none, PyData.none, PyData.none, PyData.none] = .ok q1 := by kernel_rfl
abbrev a2 : ME := (mLst (mCons (mC .none) (mCons (mOpL fList (mCons (mVar 1) mNil)) (mCons (mTup (mCons (mTup (mCons (mC (.int 0)) (mCons (mC (.int 7)) (mCons (mC (.int 9)) mNil)))) mNil)) (mCons (mTup (mCons (mTup (mCons (mC (.int 0)) (mCons (mC (.int 0)) (mCons (mC (.int 9)) mNil)))) mNil)) (mCons (mTup (mCons (mTup (mCons (mC (.int 21)) (mCons (mC (.int 1)) (mCons (mC (.int 25)) mNil)))) mNil)) (mCons (mTup (mCons (mTup (mCons (mC (.int 3)) (mCons (mC (.int 1)) (mCons (mC (.int 3)) mNil)))) mNil)) (mCons (mTup (mCons (mTup (mCons (mC (.int 0)) (mCons (mC (.int 1)) (mCons (mC (.int 31)) mNil)))) mNil)) (mCons (mTup (mCons (mTup (mCons (mC (.int 0)) (mCons (mC (.int 1)) mNil))) mNil)) (mCons (mTup (mCons (mTup (mCons (mC (.bool true)) (mCons (mC (.int 1)) (mCons (mC (.int 2)) mNil)))) mNil)) (mCons (mOp2 fAdd (mSlA (mVar 1) mNo (mPart (mC (.int 2)))) (mTup (mCons (mLst (mCons (mC (.int 0)) (mCons (mC (.int 2)) (mCons (mC (.int 6)) mNil)))) mNil))) (mCons (mOp2 fMulT (mVar 1) (mC (.int 3))) mNil))))))))))))
def q2 : PyData := val (a2 [PyData.none, q1, PyData.none, PyData.none, PyData.none, PyData.none, PyData.none, PyData.none, PyData.none, PyData.none, PyData.none, PyData.none, PyData.none])
theorem e2 (p : PyData)  : a2 [p, q1, PyData.none, PyData.none, PyData.none, PyData.none, PyData.none, PyData.none, PyData.none, PyData.none, PyData.none, PyData.none, PyData.none] = a2 [PyData.none, q1, PyData.none, PyData.none, PyData.none, PyData.none, PyData.none, PyData.none, PyData.none, PyData.none, PyData.none, PyData.none, PyData.none] := by kernel_rfl
theorem v2 (p : PyData)  : a2 [p, q1, PyData.none, PyData.none, PyData.none, PyData.none, PyData.none, PyData.none, PyData.none, PyData.none, PyData.none, PyData.none, PyData.none] = .ok q2 := by kernel_rfl
abbrev l3 : ML := (mCons (mOp2 fAddL (mOp2 fMulL (mLst (mCons (mVar 1) mNil)) (mC (.int 6))) (mVar 2)) mNil)
def M3 : List PyData := lstV (l3 [PyData.none, q1, q2, PyData.none, PyData.none, PyData.none, PyData.none, PyData.none, PyData.none, PyData.none, PyData.none, PyData.none, PyData.none])
theorem ml3 (p : PyData)  : l3 [p, q1, q2, PyData.none, PyData.none, PyData.none, PyData.none, PyData.none, PyData.none, PyData.none, PyData.none, PyData.none, PyData.none] = .ok [.list M3] := by kernel_rfl
theorem n3 : 1 ≤ M3.length ∧ M3.length ≤ 1000 := by decide +kernel
def D3 : List PyData := M3.drop 5
theorem d3 {x : PyData} (h : x ∈ M3) : x ∈ D3 := by
  have e : M3 = List.replicate 5 (D3.headD .none) ++ D3 := by kernel_rfl
  rw [e, List.mem_append, List.mem_replicate] at h
  rcases h with h | h
  · rw [h.2]
    exact (show D3 = D3.headD .none :: D3.drop 1 by kernel_rfl) ▸ List.mem_cons_self
  · exact h
abbrev l4 : ML := (mCons (mOp2 fAddL (mOp2 fMulL (mLst (mCons (mTup (mCons (mC (.int 0)) (mCons (mC (.int 1)) (mCons (mC (.int 2)) mNil)))) mNil)) (mC (.int 4))) (mLst (mCons (mTup (mCons (mC (.int 2)) (mCons (mC (.int 0)) mNil))) (mCons (mTup mNil) (mCons (mC .none) (mCons (mTup (mCons (mC (.int 0)) (mCons (mC (.int 0)) (mCons (mC (.int 1)) mNil)))) (mCons (mTup (mCons (mC (.int 3)) mNil)) (mCons (mLst (mCons (mC (.int 0)) (mCons (mC (.int 1)) (mCons (mC (.int 2)) mNil)))) (mCons (mTup (mCons (mC (.bool true)) (mCons (mC (.int 0)) mNil))) (mCons (mTup (mCons (mOp1 fNeg (mC (.int 1))) (mCons (mC (.int 0)) mNil))) mNil)))))))))) mNil)
def M4 : List PyData := lstV (l4 [PyData.none, PyData.none, PyData.none, PyData.none, PyData.none, PyData.none, PyData.none, PyData.none, PyData.none, PyData.none, PyData.none, PyData.none, PyData.none])
theorem ml4 (p : PyData) (x3 : PyData) : l4 [p, q1, q2, x3, PyData.none, PyData.none, PyData.none, PyData.none, PyData.none, PyData.none, PyData.none, PyData.none, PyData.none] = .ok [.list M4] := by kernel_rfl
theorem n4 : 1 ≤ M4.length ∧ M4.length ≤ 1000 := by decide +kernel
def D4 : List PyData := M4.drop 3
theorem d4 {x : PyData} (h : x ∈ M4) : x ∈ D4 := by
  have e : M4 = List.replicate 3 (D4.headD .none) ++ D4 := by kernel_rfl
  rw [e, List.mem_append, List.mem_replicate] at h
  rcases h with h | h
  · rw [h.2]
    exact (show D4 = D4.headD .none :: D4.drop 1 by kernel_rfl) ▸ List.mem_cons_self
  · exact h
abbrev l5 : ML := (mCons (mOp2 fAddL (mOp2 fMulL (mLst (mCons (mC (.int 1)) mNil)) (mC (.int 4))) (mLst (mCons (mC .none) (mCons (mOp1 fNeg (mC (.int 1))) (mCons (mC (.int 2)) (mCons (mC (.bool true)) mNil)))))) mNil)
def M5 : List PyData := lstV (l5 [PyData.none, PyData.none, PyData.none, PyData.none, PyData.none, PyData.none, PyData.none, PyData.none, PyData.none, PyData.none, PyData.none, PyData.none, PyData.none])
theorem ml5 (p : PyData) (x3 : PyData) (x4 : PyData) : l5 [p, q1, q2, x3, x4, PyData.none, PyData.none, PyData.none, PyData.none, PyData.none, PyData.none, PyData.none, PyData.none] = .ok [.list M5] := by kernel_rfl
theorem n5 : 1 ≤ M5.length ∧ M5.length ≤ 1000 := by decide +kernel
def D5 : List PyData := M5.drop 3
theorem d5 {x : PyData} (h : x ∈ M5) : x ∈ D5 := by
  have e : M5 = List.replicate 3 (D5.headD .none) ++ D5 := by kernel_rfl
  rw [e, List.mem_append, List.mem_replicate] at h
  rcases h with h | h
  · rw [h.2]
    exact (show D5 = D5.headD .none :: D5.drop 1 by kernel_rfl) ▸ List.mem_cons_self
  · exact h
abbrev a6 : ME := (mIfE (mTest (mOp2 (gd fNe) (mOp1 fRepr (mVar 3)) (mOp1 fRepr (mVar 1))) asB) (mLst (mCons (mTup (mCons (mC (.str "queue")) (mCons (mVar 3) mNil))) mNil)) (mLst mNil))
def q6 (x3 : PyData) : PyData := val (a6 [PyData.none, q1, PyData.none, x3, PyData.none, PyData.none, PyData.none, PyData.none, PyData.none, PyData.none, PyData.none, PyData.none, PyData.none])
theorem e6 (p : PyData) (x3 : PyData) (x4 : PyData) (x5 : PyData) : a6 [p, q1, q2, x3, x4, x5, PyData.none, PyData.none, PyData.none, PyData.none, PyData.none, PyData.none, PyData.none] = a6 [PyData.none, q1, PyData.none, x3, PyData.none, PyData.none, PyData.none, PyData.none, PyData.none, PyData.none, PyData.none, PyData.none, PyData.none] := by kernel_rfl
theorem k6 : (D3.all fun x3 => okL (a6 [PyData.none, q1, PyData.none, x3, PyData.none, PyData.none, PyData.none, PyData.none, PyData.none, PyData.none, PyData.none, PyData.none, PyData.none])) = true := by decide +kernel
theorem v6 (p : PyData) (x3 : PyData) (x4 : PyData) (x5 : PyData) (m3 : x3 ∈ D3) : a6 [p, q1, q2, x3, x4, x5, PyData.none, PyData.none, PyData.none, PyData.none, PyData.none, PyData.none, PyData.none] = .ok (q6 x3) := (e6 p x3 x4 x5).trans (val_ok (List.all_eq_true.mp (k6) x3 m3))
abbrev a7 : ME := (mIfE (mTest (mOp2 (gd fNotIn) (mOp1 fRepr (mVar 4)) (mTup (mCons (mOp1 fRepr (mTup (mCons (mC (.int 0)) (mCons (mC (.int 1)) (mCons (mC (.int 2)) mNil))))) (mCons (mOp1 fRepr (mTup (mCons (mC (.int 2)) (mCons (mC (.int 0)) mNil)))) (mCons (mOp1 fRepr (mTup mNil)) mNil))))) asB) (mLst (mCons (mTup (mCons (mC (.str "row")) (mCons (mVar 4) mNil))) mNil)) (mLst mNil))
def q7 (x4 : PyData) : PyData := val (a7 [PyData.none, PyData.none, PyData.none, PyData.none, x4, PyData.none, PyData.none, PyData.none, PyData.none, PyData.none, PyData.none, PyData.none, PyData.none])
theorem e7 (p : PyData) (x3 : PyData) (x4 : PyData) (x5 : PyData) : a7 [p, q1, q2, x3, x4, x5, (q6 x3), PyData.none, PyData.none, PyData.none, PyData.none, PyData.none, PyData.none] = a7 [PyData.none, PyData.none, PyData.none, PyData.none, x4, PyData.none, PyData.none, PyData.none, PyData.none, PyData.none, PyData.none, PyData.none, PyData.none] := by kernel_rfl
theorem k7 : (D4.all fun x4 => okL (a7 [PyData.none, PyData.none, PyData.none, PyData.none, x4, PyData.none, PyData.none, PyData.none, PyData.none, PyData.none, PyData.none, PyData.none, PyData.none])) = true := by decide +kernel
theorem v7 (p : PyData) (x3 : PyData) (x4 : PyData) (x5 : PyData) (m4 : x4 ∈ D4) : a7 [p, q1, q2, x3, x4, x5, (q6 x3), PyData.none, PyData.none, PyData.none, PyData.none, PyData.none, PyData.none] = .ok (q7 x4) := (e7 p x3 x4 x5).trans (val_ok (List.all_eq_true.mp (k7) x4 m4))
abbrev a9 : ME := (mIfE (mTest (mOp2 (gd fIn) (mOp1 fRepr (mVar 4)) (mTup (mCons (mOp1 fRepr (mTup (mCons (mC (.int 2)) (mCons (mC (.int 0)) mNil)))) (mCons (mOp1 fRepr (mTup mNil)) mNil)))) asB) (mLst (mCons (mTup (mCons (mC (.str "all")) (mCons (mVar 4) mNil))) mNil)) (mLst mNil))
def q9 (x4 : PyData) : PyData := val (a9 [PyData.none, PyData.none, PyData.none, PyData.none, x4, PyData.none, PyData.none, PyData.none, PyData.none, PyData.none, PyData.none, PyData.none, PyData.none])
theorem e9 (p : PyData) (x3 : PyData) (x4 : PyData) (x5 : PyData) : a9 [p, q1, q2, x3, x4, x5, (q6 x3), (q7 x4), PyData.none, PyData.none, PyData.none, PyData.none, PyData.none] = a9 [PyData.none, PyData.none, PyData.none, PyData.none, x4, PyData.none, PyData.none, PyData.none, PyData.none, PyData.none, PyData.none, PyData.none, PyData.none] := by kernel_rfl
theorem k9 : (D4.all fun x4 => okL (a9 [PyData.none, PyData.none, PyData.none, PyData.none, x4, PyData.none, PyData.none, PyData.none, PyData.none, PyData.none, PyData.none, PyData.none, PyData.none])) = true := by decide +kernel
theorem v9 (p : PyData) (x3 : PyData) (x4 : PyData) (x5 : PyData) (m4 : x4 ∈ D4) : a9 [p, q1, q2, x3, x4, x5, (q6 x3), (q7 x4), PyData.none, PyData.none, PyData.none, PyData.none, PyData.none] = .ok (q9 x4) := (e9 p x3 x4 x5).trans (val_ok (List.all_eq_true.mp (k9) x4 m4))
abbrev a10 : ME := (mIfE (mTest (mOp2 (gd fNe) (mOp1 fRepr (mVar 5)) (mC (.str "1"))) asB) (mLst (mCons (mTup (mCons (mC (.str "place")) (mCons (mVar 5) mNil))) mNil)) (mLst mNil))
def q10 (x5 : PyData) : PyData := val (a10 [PyData.none, PyData.none, PyData.none, PyData.none, PyData.none, x5, PyData.none, PyData.none, PyData.none, PyData.none, PyData.none, PyData.none, PyData.none])
theorem e10 (p : PyData) (x3 : PyData) (x4 : PyData) (x5 : PyData) : a10 [p, q1, q2, x3, x4, x5, (q6 x3), (q7 x4), PyData.none, PyData.none, PyData.none, PyData.none, PyData.none] = a10 [PyData.none, PyData.none, PyData.none, PyData.none, PyData.none, x5, PyData.none, PyData.none, PyData.none, PyData.none, PyData.none, PyData.none, PyData.none] := by kernel_rfl
theorem k10 : (D5.all fun x5 => okL (a10 [PyData.none, PyData.none, PyData.none, PyData.none, PyData.none, x5, PyData.none, PyData.none, PyData.none, PyData.none, PyData.none, PyData.none, PyData.none])) = true := by decide +kernel
theorem v10 (p : PyData) (x3 : PyData) (x4 : PyData) (x5 : PyData) (m5 : x5 ∈ D5) : a10 [p, q1, q2, x3, x4, x5, (q6 x3), (q7 x4), PyData.none, PyData.none, PyData.none, PyData.none, PyData.none] = .ok (q10 x5) := (e10 p x3 x4 x5).trans (val_ok (List.all_eq_true.mp (k10) x5 m5))
theorem s6 (p : PyData) (x3 : PyData) (x4 : PyData) (x5 : PyData) : seeOne N__law_right f__law_is_raised [p, q1, q2, x3, x4, x5, (q6 x3), (q7 x4), PyData.none, (q9 x4), (q10 x5), PyData.none, PyData.none] (6, tx_6, (mVar 6)) = seeOne N__law_right f__law_is_raised [PyData.none, PyData.none, PyData.none, x3, PyData.none, PyData.none, (q6 x3), PyData.none, PyData.none, PyData.none, PyData.none, PyData.none, PyData.none] (6, tx_6, (mVar 6)) := by kernel_rfl
theorem r6 : (D3.all fun x3 => seeOne N__law_right f__law_is_raised [PyData.none, PyData.none, PyData.none, x3, PyData.none, PyData.none, (q6 x3), PyData.none, PyData.none, PyData.none, PyData.none, PyData.none, PyData.none] (6, tx_6, (mVar 6))) = true := by decide +kernel
theorem t6 (p : PyData) (x3 : PyData) (x4 : PyData) (x5 : PyData) (m3 : x3 ∈ D3) : seeOne N__law_right f__law_is_raised [p, q1, q2, x3, x4, x5, (q6 x3), (q7 x4), PyData.none, (q9 x4), (q10 x5), PyData.none, PyData.none] (6, tx_6, (mVar 6)) = true := (s6 p x3 x4 x5).trans (List.all_eq_true.mp (r6) x3 m3)
theorem s7 (p : PyData) (x3 : PyData) (x4 : PyData) (x5 : PyData) : seeOne N__law_right f__law_is_raised [p, q1, q2, x3, x4, x5, (q6 x3), (q7 x4), PyData.none, (q9 x4), (q10 x5), PyData.none, PyData.none] (7, tx_7, (mVar 6)) = seeOne N__law_right f__law_is_raised [PyData.none, PyData.none, PyData.none, x3, PyData.none, PyData.none, (q6 x3), PyData.none, PyData.none, PyData.none, PyData.none, PyData.none, PyData.none] (7, tx_7, (mVar 6)) := by kernel_rfl
theorem r7 : (D3.all fun x3 => seeOne N__law_right f__law_is_raised [PyData.none, PyData.none, PyData.none, x3, PyData.none, PyData.none, (q6 x3), PyData.none, PyData.none, PyData.none, PyData.none, PyData.none, PyData.none] (7, tx_7, (mVar 6))) = true := by decide +kernel
theorem t7 (p : PyData) (x3 : PyData) (x4 : PyData) (x5 : PyData) (m3 : x3 ∈ D3) : seeOne N__law_right f__law_is_raised [p, q1, q2, x3, x4, x5, (q6 x3), (q7 x4), PyData.none, (q9 x4), (q10 x5), PyData.none, PyData.none] (7, tx_7, (mVar 6)) = true := (s7 p x3 x4 x5).trans (List.all_eq_true.mp (r7) x3 m3)
theorem s8 (p : PyData) (x3 : PyData) (x4 : PyData) (x5 : PyData) : seeOne N__law_right f__law_is_raised [p, q1, q2, x3, x4, x5, (q6 x3), (q7 x4), PyData.none, (q9 x4), (q10 x5), PyData.none, PyData.none] (8, tx_8, (mOp2 fAddL (mVar 6) (mVar 7))) = seeOne N__law_right f__law_is_raised [PyData.none, PyData.none, PyData.none, x3, x4, PyData.none, (q6 x3), (q7 x4), PyData.none, PyData.none, PyData.none, PyData.none, PyData.none] (8, tx_8, (mOp2 fAddL (mVar 6) (mVar 7))) := by kernel_rfl
theorem r8 : (D3.all fun x3 => D4.all fun x4 => seeOne N__law_right f__law_is_raised [PyData.none, PyData.none, PyData.none, x3, x4, PyData.none, (q6 x3), (q7 x4), PyData.none, PyData.none, PyData.none, PyData.none, PyData.none] (8, tx_8, (mOp2 fAddL (mVar 6) (mVar 7)))) = true := by decide +kernel
theorem t8 (p : PyData) (x3 : PyData) (x4 : PyData) (x5 : PyData) (m3 : x3 ∈ D3) (m4 : x4 ∈ D4) : seeOne N__law_right f__law_is_raised [p, q1, q2, x3, x4, x5, (q6 x3), (q7 x4), PyData.none, (q9 x4), (q10 x5), PyData.none, PyData.none] (8, tx_8, (mOp2 fAddL (mVar 6) (mVar 7))) = true := (s8 p x3 x4 x5).trans (List.all_eq_true.mp (List.all_eq_true.mp (r8) x3 m3) x4 m4)
theorem s9 (p : PyData) (x3 : PyData) (x4 : PyData) (x5 : PyData) : seeOne N__law_right f__law_is_raised [p, q1, q2, x3, x4, x5, (q6 x3), (q7 x4), PyData.none, (q9 x4), (q10 x5), PyData.none, PyData.none] (9, tx_9, (mOp2 fAddL (mVar 6) (mVar 7))) = seeOne N__law_right f__law_is_raised [PyData.none, PyData.none, PyData.none, x3, x4, PyData.none, (q6 x3), (q7 x4), PyData.none, PyData.none, PyData.none, PyData.none, PyData.none] (9, tx_9, (mOp2 fAddL (mVar 6) (mVar 7))) := by kernel_rfl
theorem r9 : (D3.all fun x3 => D4.all fun x4 => seeOne N__law_right f__law_is_raised [PyData.none, PyData.none, PyData.none, x3, x4, PyData.none, (q6 x3), (q7 x4), PyData.none, PyData.none, PyData.none, PyData.none, PyData.none] (9, tx_9, (mOp2 fAddL (mVar 6) (mVar 7)))) = true := by decide +kernel
theorem t9 (p : PyData) (x3 : PyData) (x4 : PyData) (x5 : PyData) (m3 : x3 ∈ D3) (m4 : x4 ∈ D4) : seeOne N__law_right f__law_is_raised [p, q1, q2, x3, x4, x5, (q6 x3), (q7 x4), PyData.none, (q9 x4), (q10 x5), PyData.none, PyData.none] (9, tx_9, (mOp2 fAddL (mVar 6) (mVar 7))) = true := (s9 p x3 x4 x5).trans (List.all_eq_true.mp (List.all_eq_true.mp (r9) x3 m3) x4 m4)
theorem s10 (p : PyData) (x3 : PyData) (x4 : PyData) (x5 : PyData) : seeOne N__law_right f__law_is_raised [p, q1, q2, x3, x4, x5, (q6 x3), (q7 x4), PyData.none, (q9 x4), (q10 x5), PyData.none, PyData.none] (10, tx_10, (mVar 6)) = seeOne N__law_right f__law_is_raised [PyData.none, PyData.none, PyData.none, x3, PyData.none, PyData.none, (q6 x3), PyData.none, PyData.none, PyData.none, PyData.none, PyData.none, PyData.none] (10, tx_10, (mVar 6)) := by kernel_rfl
theorem r10 : (D3.all fun x3 => seeOne N__law_right f__law_is_raised [PyData.none, PyData.none, PyData.none, x3, PyData.none, PyData.none, (q6 x3), PyData.none, PyData.none, PyData.none, PyData.none, PyData.none, PyData.none] (10, tx_10, (mVar 6))) = true := by decide +kernel
theorem t10 (p : PyData) (x3 : PyData) (x4 : PyData) (x5 : PyData) (m3 : x3 ∈ D3) : seeOne N__law_right f__law_is_raised [p, q1, q2, x3, x4, x5, (q6 x3), (q7 x4), PyData.none, (q9 x4), (q10 x5), PyData.none, PyData.none] (10, tx_10, (mVar 6)) = true := (s10 p x3 x4 x5).trans (List.all_eq_true.mp (r10) x3 m3)
theorem s11 (p : PyData) (x3 : PyData) (x4 : PyData) (x5 : PyData) : seeOne N__law_right f__law_is_raised [p, q1, q2, x3, x4, x5, (q6 x3), (q7 x4), PyData.none, (q9 x4), (q10 x5), PyData.none, PyData.none] (11, tx_11, (mVar 6)) = seeOne N__law_right f__law_is_raised [PyData.none, PyData.none, PyData.none, x3, PyData.none, PyData.none, (q6 x3), PyData.none, PyData.none, PyData.none, PyData.none, PyData.none, PyData.none] (11, tx_11, (mVar 6)) := by kernel_rfl
theorem r11 : (D3.all fun x3 => seeOne N__law_right f__law_is_raised [PyData.none, PyData.none, PyData.none, x3, PyData.none, PyData.none, (q6 x3), PyData.none, PyData.none, PyData.none, PyData.none, PyData.none, PyData.none] (11, tx_11, (mVar 6))) = true := by decide +kernel
theorem t11 (p : PyData) (x3 : PyData) (x4 : PyData) (x5 : PyData) (m3 : x3 ∈ D3) : seeOne N__law_right f__law_is_raised [p, q1, q2, x3, x4, x5, (q6 x3), (q7 x4), PyData.none, (q9 x4), (q10 x5), PyData.none, PyData.none] (11, tx_11, (mVar 6)) = true := (s11 p x3 x4 x5).trans (List.all_eq_true.mp (r11) x3 m3)
theorem s12 (p : PyData) (x3 : PyData) (x4 : PyData) (x5 : PyData) : seeOne N__law_right f__law_is_raised [p, q1, q2, x3, x4, x5, (q6 x3), (q7 x4), PyData.none, (q9 x4), (q10 x5), PyData.none, PyData.none] (12, tx_12, (mVar 6)) = seeOne N__law_right f__law_is_raised [PyData.none, PyData.none, PyData.none, x3, PyData.none, PyData.none, (q6 x3), PyData.none, PyData.none, PyData.none, PyData.none, PyData.none, PyData.none] (12, tx_12, (mVar 6)) := by kernel_rfl
theorem r12 : (D3.all fun x3 => seeOne N__law_right f__law_is_raised [PyData.none, PyData.none, PyData.none, x3, PyData.none, PyData.none, (q6 x3), PyData.none, PyData.none, PyData.none, PyData.none, PyData.none, PyData.none] (12, tx_12, (mVar 6))) = true := by decide +kernel
theorem t12 (p : PyData) (x3 : PyData) (x4 : PyData) (x5 : PyData) (m3 : x3 ∈ D3) : seeOne N__law_right f__law_is_raised [p, q1, q2, x3, x4, x5, (q6 x3), (q7 x4), PyData.none, (q9 x4), (q10 x5), PyData.none, PyData.none] (12, tx_12, (mVar 6)) = true := (s12 p x3 x4 x5).trans (List.all_eq_true.mp (r12) x3 m3)
theorem s13 (p : PyData) (x3 : PyData) (x4 : PyData) (x5 : PyData) : seeOne N__law_right f__law_is_raised [p, q1, q2, x3, x4, x5, (q6 x3), (q7 x4), PyData.none, (q9 x4), (q10 x5), PyData.none, PyData.none] (13, tx_13, (mVar 6)) = seeOne N__law_right f__law_is_raised [PyData.none, PyData.none, PyData.none, x3, PyData.none, PyData.none, (q6 x3), PyData.none, PyData.none, PyData.none, PyData.none, PyData.none, PyData.none] (13, tx_13, (mVar 6)) := by kernel_rfl
theorem r13 : (D3.all fun x3 => seeOne N__law_right f__law_is_raised [PyData.none, PyData.none, PyData.none, x3, PyData.none, PyData.none, (q6 x3), PyData.none, PyData.none, PyData.none, PyData.none, PyData.none, PyData.none] (13, tx_13, (mVar 6))) = true := by decide +kernel
theorem t13 (p : PyData) (x3 : PyData) (x4 : PyData) (x5 : PyData) (m3 : x3 ∈ D3) : seeOne N__law_right f__law_is_raised [p, q1, q2, x3, x4, x5, (q6 x3), (q7 x4), PyData.none, (q9 x4), (q10 x5), PyData.none, PyData.none] (13, tx_13, (mVar 6)) = true := (s13 p x3 x4 x5).trans (List.all_eq_true.mp (r13) x3 m3)
theorem s14 (p : PyData) (x3 : PyData) (x4 : PyData) (x5 : PyData) : seeOne N__law_right f__law_is_raised [p, q1, q2, x3, x4, x5, (q6 x3), (q7 x4), PyData.none, (q9 x4), (q10 x5), PyData.none, PyData.none] (14, tx_14, (mVar 6)) = seeOne N__law_right f__law_is_raised [PyData.none, PyData.none, PyData.none, x3, PyData.none, PyData.none, (q6 x3), PyData.none, PyData.none, PyData.none, PyData.none, PyData.none, PyData.none] (14, tx_14, (mVar 6)) := by kernel_rfl
theorem r14 : (D3.all fun x3 => seeOne N__law_right f__law_is_raised [PyData.none, PyData.none, PyData.none, x3, PyData.none, PyData.none, (q6 x3), PyData.none, PyData.none, PyData.none, PyData.none, PyData.none, PyData.none] (14, tx_14, (mVar 6))) = true := by decide +kernel
theorem t14 (p : PyData) (x3 : PyData) (x4 : PyData) (x5 : PyData) (m3 : x3 ∈ D3) : seeOne N__law_right f__law_is_raised [p, q1, q2, x3, x4, x5, (q6 x3), (q7 x4), PyData.none, (q9 x4), (q10 x5), PyData.none, PyData.none] (14, tx_14, (mVar 6)) = true := (s14 p x3 x4 x5).trans (List.all_eq_true.mp (r14) x3 m3)
theorem s15 (p : PyData) (x3 : PyData) (x4 : PyData) (x5 : PyData) : seeOne N__law_right f__law_is_raised [p, q1, q2, x3, x4, x5, (q6 x3), (q7 x4), PyData.none, (q9 x4), (q10 x5), PyData.none, PyData.none] (15, tx_15, (mVar 6)) = seeOne N__law_right f__law_is_raised [PyData.none, PyData.none, PyData.none, x3, PyData.none, PyData.none, (q6 x3), PyData.none, PyData.none, PyData.none, PyData.none, PyData.none, PyData.none] (15, tx_15, (mVar 6)) := by kernel_rfl
theorem r15 : (D3.all fun x3 => seeOne N__law_right f__law_is_raised [PyData.none, PyData.none, PyData.none, x3, PyData.none, PyData.none, (q6 x3), PyData.none, PyData.none, PyData.none, PyData.none, PyData.none, PyData.none] (15, tx_15, (mVar 6))) = true := by decide +kernel
theorem t15 (p : PyData) (x3 : PyData) (x4 : PyData) (x5 : PyData) (m3 : x3 ∈ D3) : seeOne N__law_right f__law_is_raised [p, q1, q2, x3, x4, x5, (q6 x3), (q7 x4), PyData.none, (q9 x4), (q10 x5), PyData.none, PyData.none] (15, tx_15, (mVar 6)) = true := (s15 p x3 x4 x5).trans (List.all_eq_true.mp (r15) x3 m3)
theorem s16 (p : PyData) (x3 : PyData) (x4 : PyData) (x5 : PyData) : seeOne N__law_right f__law_is_raised [p, q1, q2, x3, x4, x5, (q6 x3), (q7 x4), PyData.none, (q9 x4), (q10 x5), PyData.none, PyData.none] (16, tx_16, (mVar 6)) = seeOne N__law_right f__law_is_raised [PyData.none, PyData.none, PyData.none, x3, PyData.none, PyData.none, (q6 x3), PyData.none, PyData.none, PyData.none, PyData.none, PyData.none, PyData.none] (16, tx_16, (mVar 6)) := by kernel_rfl
theorem r16 : (D3.all fun x3 => seeOne N__law_right f__law_is_raised [PyData.none, PyData.none, PyData.none, x3, PyData.none, PyData.none, (q6 x3), PyData.none, PyData.none, PyData.none, PyData.none, PyData.none, PyData.none] (16, tx_16, (mVar 6))) = true := by decide +kernel
theorem t16 (p : PyData) (x3 : PyData) (x4 : PyData) (x5 : PyData) (m3 : x3 ∈ D3) : seeOne N__law_right f__law_is_raised [p, q1, q2, x3, x4, x5, (q6 x3), (q7 x4), PyData.none, (q9 x4), (q10 x5), PyData.none, PyData.none] (16, tx_16, (mVar 6)) = true := (s16 p x3 x4 x5).trans (List.all_eq_true.mp (r16) x3 m3)
theorem s17 (p : PyData) (x3 : PyData) (x4 : PyData) (x5 : PyData) : seeOne N__law_right f__law_is_raised [p, q1, q2, x3, x4, x5, (q6 x3), (q7 x4), PyData.none, (q9 x4), (q10 x5), PyData.none, PyData.none] (17, tx_17, (mVar 6)) = seeOne N__law_right f__law_is_raised [PyData.none, PyData.none, PyData.none, x3, PyData.none, PyData.none, (q6 x3), PyData.none, PyData.none, PyData.none, PyData.none, PyData.none, PyData.none] (17, tx_17, (mVar 6)) := by kernel_rfl
theorem r17 : (D3.all fun x3 => seeOne N__law_right f__law_is_raised [PyData.none, PyData.none, PyData.none, x3, PyData.none, PyData.none, (q6 x3), PyData.none, PyData.none, PyData.none, PyData.none, PyData.none, PyData.none] (17, tx_17, (mVar 6))) = true := by decide +kernel
theorem t17 (p : PyData) (x3 : PyData) (x4 : PyData) (x5 : PyData) (m3 : x3 ∈ D3) : seeOne N__law_right f__law_is_raised [p, q1, q2, x3, x4, x5, (q6 x3), (q7 x4), PyData.none, (q9 x4), (q10 x5), PyData.none, PyData.none] (17, tx_17, (mVar 6)) = true := (s17 p x3 x4 x5).trans (List.all_eq_true.mp (r17) x3 m3)
theorem s18 (p : PyData) (x3 : PyData) (x4 : PyData) (x5 : PyData) : seeOne N__law_right f__law_is_raised [p, q1, q2, x3, x4, x5, (q6 x3), (q7 x4), PyData.none, (q9 x4), (q10 x5), PyData.none, PyData.none] (18, tx_18, (mVar 6)) = seeOne N__law_right f__law_is_raised [PyData.none, PyData.none, PyData.none, x3, PyData.none, PyData.none, (q6 x3), PyData.none, PyData.none, PyData.none, PyData.none, PyData.none, PyData.none] (18, tx_18, (mVar 6)) := by kernel_rfl
theorem r18 : (D3.all fun x3 => seeOne N__law_right f__law_is_raised [PyData.none, PyData.none, PyData.none, x3, PyData.none, PyData.none, (q6 x3), PyData.none, PyData.none, PyData.none, PyData.none, PyData.none, PyData.none] (18, tx_18, (mVar 6))) = true := by decide +kernel
theorem t18 (p : PyData) (x3 : PyData) (x4 : PyData) (x5 : PyData) (m3 : x3 ∈ D3) : seeOne N__law_right f__law_is_raised [p, q1, q2, x3, x4, x5, (q6 x3), (q7 x4), PyData.none, (q9 x4), (q10 x5), PyData.none, PyData.none] (18, tx_18, (mVar 6)) = true := (s18 p x3 x4 x5).trans (List.all_eq_true.mp (r18) x3 m3)
theorem s19 (p : PyData) (x3 : PyData) (x4 : PyData) (x5 : PyData) : seeOne N__law_right f__law_is_raised [p, q1, q2, x3, x4, x5, (q6 x3), (q7 x4), PyData.none, (q9 x4), (q10 x5), PyData.none, PyData.none] (19, tx_19, (mVar 6)) = seeOne N__law_right f__law_is_raised [PyData.none, PyData.none, PyData.none, x3, PyData.none, PyData.none, (q6 x3), PyData.none, PyData.none, PyData.none, PyData.none, PyData.none, PyData.none] (19, tx_19, (mVar 6)) := by kernel_rfl
theorem r19 : (D3.all fun x3 => seeOne N__law_right f__law_is_raised [PyData.none, PyData.none, PyData.none, x3, PyData.none, PyData.none, (q6 x3), PyData.none, PyData.none, PyData.none, PyData.none, PyData.none, PyData.none] (19, tx_19, (mVar 6))) = true := by decide +kernel
theorem t19 (p : PyData) (x3 : PyData) (x4 : PyData) (x5 : PyData) (m3 : x3 ∈ D3) : seeOne N__law_right f__law_is_raised [p, q1, q2, x3, x4, x5, (q6 x3), (q7 x4), PyData.none, (q9 x4), (q10 x5), PyData.none, PyData.none] (19, tx_19, (mVar 6)) = true := (s19 p x3 x4 x5).trans (List.all_eq_true.mp (r19) x3 m3)
theorem s20 (p : PyData) (x3 : PyData) (x4 : PyData) (x5 : PyData) : seeOne N__law_right f__law_is_raised [p, q1, q2, x3, x4, x5, (q6 x3), (q7 x4), PyData.none, (q9 x4), (q10 x5), PyData.none, PyData.none] (20, tx_20, (mVar 6)) = seeOne N__law_right f__law_is_raised [PyData.none, PyData.none, PyData.none, x3, PyData.none, PyData.none, (q6 x3), PyData.none, PyData.none, PyData.none, PyData.none, PyData.none, PyData.none] (20, tx_20, (mVar 6)) := by kernel_rfl
theorem r20 : (D3.all fun x3 => seeOne N__law_right f__law_is_raised [PyData.none, PyData.none, PyData.none, x3, PyData.none, PyData.none, (q6 x3), PyData.none, PyData.none, PyData.none, PyData.none, PyData.none, PyData.none] (20, tx_20, (mVar 6))) = true := by decide +kernel
theorem t20 (p : PyData) (x3 : PyData) (x4 : PyData) (x5 : PyData) (m3 : x3 ∈ D3) : seeOne N__law_right f__law_is_raised [p, q1, q2, x3, x4, x5, (q6 x3), (q7 x4), PyData.none, (q9 x4), (q10 x5), PyData.none, PyData.none] (20, tx_20, (mVar 6)) = true := (s20 p x3 x4 x5).trans (List.all_eq_true.mp (r20) x3 m3)
theorem s21 (p : PyData) (x3 : PyData) (x4 : PyData) (x5 : PyData) : seeOne N__law_right f__law_is_raised [p, q1, q2, x3, x4, x5, (q6 x3), (q7 x4), PyData.none, (q9 x4), (q10 x5), PyData.none, PyData.none] (21, tx_21, (mVar 6)) = seeOne N__law_right f__law_is_raised [PyData.none, PyData.none, PyData.none, x3, PyData.none, PyData.none, (q6 x3), PyData.none, PyData.none, PyData.none, PyData.none, PyData.none, PyData.none] (21, tx_21, (mVar 6)) := by kernel_rfl
theorem r21 : (D3.all fun x3 => seeOne N__law_right f__law_is_raised [PyData.none, PyData.none, PyData.none, x3, PyData.none, PyData.none, (q6 x3), PyData.none, PyData.none, PyData.none, PyData.none, PyData.none, PyData.none] (21, tx_21, (mVar 6))) = true := by decide +kernel
theorem t21 (p : PyData) (x3 : PyData) (x4 : PyData) (x5 : PyData) (m3 : x3 ∈ D3) : seeOne N__law_right f__law_is_raised [p, q1, q2, x3, x4, x5, (q6 x3), (q7 x4), PyData.none, (q9 x4), (q10 x5), PyData.none, PyData.none] (21, tx_21, (mVar 6)) = true := (s21 p x3 x4 x5).trans (List.all_eq_true.mp (r21) x3 m3)
theorem s22 (p : PyData) (x3 : PyData) (x4 : PyData) (x5 : PyData) : seeOne N__law_right f__law_is_raised [p, q1, q2, x3, x4, x5, (q6 x3), (q7 x4), PyData.none, (q9 x4), (q10 x5), PyData.none, PyData.none] (22, tx_22, (mVar 6)) = seeOne N__law_right f__law_is_raised [PyData.none, PyData.none, PyData.none, x3, PyData.none, PyData.none, (q6 x3), PyData.none, PyData.none, PyData.none, PyData.none, PyData.none, PyData.none] (22, tx_22, (mVar 6)) := by kernel_rfl
theorem r22 : (D3.all fun x3 => seeOne N__law_right f__law_is_raised [PyData.none, PyData.none, PyData.none, x3, PyData.none, PyData.none, (q6 x3), PyData.none, PyData.none, PyData.none, PyData.none, PyData.none, PyData.none] (22, tx_22, (mVar 6))) = true := by decide +kernel
theorem t22 (p : PyData) (x3 : PyData) (x4 : PyData) (x5 : PyData) (m3 : x3 ∈ D3) : seeOne N__law_right f__law_is_raised [p, q1, q2, x3, x4, x5, (q6 x3), (q7 x4), PyData.none, (q9 x4), (q10 x5), PyData.none, PyData.none] (22, tx_22, (mVar 6)) = true := (s22 p x3 x4 x5).trans (List.all_eq_true.mp (r22) x3 m3)
theorem s23 (p : PyData) (x3 : PyData) (x4 : PyData) (x5 : PyData) : seeOne N__law_right f__law_is_raised [p, q1, q2, x3, x4, x5, (q6 x3), (q7 x4), PyData.none, (q9 x4), (q10 x5), PyData.none, PyData.none] (23, tx_23, (mOp2 fAddL (mOp2 fAddL (mOp2 fAddL (mVar 6) (mVar 7)) (mVar 9)) (mVar 10))) = seeOne N__law_right f__law_is_raised [PyData.none, PyData.none, PyData.none, x3, x4, x5, (q6 x3), (q7 x4), PyData.none, (q9 x4), (q10 x5), PyData.none, PyData.none] (23, tx_23, (mOp2 fAddL (mOp2 fAddL (mOp2 fAddL (mVar 6) (mVar 7)) (mVar 9)) (mVar 10))) := by kernel_rfl
theorem r23 : (D3.all fun x3 => D4.all fun x4 => D5.all fun x5 => seeOne N__law_right f__law_is_raised [PyData.none, PyData.none, PyData.none, x3, x4, x5, (q6 x3), (q7 x4), PyData.none, (q9 x4), (q10 x5), PyData.none, PyData.none] (23, tx_23, (mOp2 fAddL (mOp2 fAddL (mOp2 fAddL (mVar 6) (mVar 7)) (mVar 9)) (mVar 10)))) = true := by decide +kernel
theorem t23 (p : PyData) (x3 : PyData) (x4 : PyData) (x5 : PyData) (m3 : x3 ∈ D3) (m4 : x4 ∈ D4) (m5 : x5 ∈ D5) : seeOne N__law_right f__law_is_raised [p, q1, q2, x3, x4, x5, (q6 x3), (q7 x4), PyData.none, (q9 x4), (q10 x5), PyData.none, PyData.none] (23, tx_23, (mOp2 fAddL (mOp2 fAddL (mOp2 fAddL (mVar 6) (mVar 7)) (mVar 9)) (mVar 10))) = true := (s23 p x3 x4 x5).trans (List.all_eq_true.mp (List.all_eq_true.mp (List.all_eq_true.mp (r23) x3 m3) x4 m4) x5 m5)
theorem all_looks (p : PyData) (x3 : PyData) (x4 : PyData) (x5 : PyData) (m3 : x3 ∈ D3) (m4 : x4 ∈ D4) (m5 : x5 ∈ D5) : it__law_right.all (seeOne N__law_right f__law_is_raised [p, q1, q2, x3, x4, x5, (q6 x3), (q7 x4), PyData.none, (q9 x4), (q10 x5), PyData.none, PyData.none]) = true := by
  unfold it__law_right
  simp only [List.all_cons, List.all_nil, Bool.and_true, Bool.and_eq_true]
  exact ⟨t6 _ x3 x4 x5 m3, t7 _ x3 x4 x5 m3, t8 _ x3 x4 x5 m3 m4, t9 _ x3 x4 x5 m3 m4, t10 _ x3 x4 x5 m3, t11 _ x3 x4 x5 m3, t12 _ x3 x4 x5 m3, t13 _ x3 x4 x5 m3, t14 _ x3 x4 x5 m3, t15 _ x3 x4 x5 m3, t16 _ x3 x4 x5 m3, t17 _ x3 x4 x5 m3, t18 _ x3 x4 x5 m3, t19 _ x3 x4 x5 m3, t20 _ x3 x4 x5 m3, t21 _ x3 x4 x5 m3, t22 _ x3 x4 x5 m3, t23 _ x3 x4 x5 m3 m4 m5⟩
theorem right_ok {k : Int} {p : List PyData} (h : PotOk k p) (hk : k + 3 ≤ 1000) : ∃ p', f__law_right [.list p] = .ok (.tuple [.bool true, .list p']) ∧ PotOk (k + 3) p' := by
  obtain ⟨x3, p3, f3, w3, h3⟩ := of_ok h (by omega) n3.1 n3.2
  have m3 := d3 w3
  obtain ⟨is3, hs3⟩ := h3.ints
  obtain ⟨x4, p4, f4, w4, h4⟩ := of_ok h3 (by omega) n4.1 n4.2
  have m4 := d4 w4
  obtain ⟨is4, hs4⟩ := h4.ints
  obtain ⟨x5, p5, f5, w5, h5⟩ := of_ok h4 (by omega) n5.1 n5.2
  have m5 := d5 w5
  obtain ⟨is5, hs5⟩ := h5.ints
  refine ⟨p5, ?_, by have := h5; rwa [show k + 3 = k + 1 + 1 + 1 by omega]⟩
  have z0 : mSet 1 a1 [.list p, PyData.none, PyData.none, PyData.none, PyData.none, PyData.none, PyData.none, PyData.none, PyData.none, PyData.none, PyData.none, PyData.none, PyData.none] = .ok (.next [.list p, q1, PyData.none, PyData.none, PyData.none, PyData.none, PyData.none, PyData.none, PyData.none, PyData.none, PyData.none, PyData.none, PyData.none]) := set_ok (v1 (.list p)  )
  have z1 : mSet 2 a2 [.list p, q1, PyData.none, PyData.none, PyData.none, PyData.none, PyData.none, PyData.none, PyData.none, PyData.none, PyData.none, PyData.none, PyData.none] = .ok (.next [.list p, q1, q2, PyData.none, PyData.none, PyData.none, PyData.none, PyData.none, PyData.none, PyData.none, PyData.none, PyData.none, PyData.none]) := set_ok (v2 (.list p)  )
  have z2 : mSetM 3 f__law_of l3 [.list p, q1, q2, PyData.none, PyData.none, PyData.none, PyData.none, PyData.none, PyData.none, PyData.none, PyData.none, PyData.none, PyData.none] = .ok (.next [.list p3, q1, q2, x3, PyData.none, PyData.none, PyData.none, PyData.none, PyData.none, PyData.none, PyData.none, PyData.none, PyData.none]) := setM_ok rfl (ml3 (.list p) ) f3 hs3
  have z3 : mSetM 4 f__law_of l4 [.list p3, q1, q2, x3, PyData.none, PyData.none, PyData.none, PyData.none, PyData.none, PyData.none, PyData.none, PyData.none, PyData.none] = .ok (.next [.list p4, q1, q2, x3, x4, PyData.none, PyData.none, PyData.none, PyData.none, PyData.none, PyData.none, PyData.none, PyData.none]) := setM_ok rfl (ml4 (.list p3) x3) f4 hs4
  have z4 : mSetM 5 f__law_of l5 [.list p4, q1, q2, x3, x4, PyData.none, PyData.none, PyData.none, PyData.none, PyData.none, PyData.none, PyData.none, PyData.none] = .ok (.next [.list p5, q1, q2, x3, x4, x5, PyData.none, PyData.none, PyData.none, PyData.none, PyData.none, PyData.none, PyData.none]) := setM_ok rfl (ml5 (.list p4) x3 x4) f5 hs5
  have z5 : mSet 6 a6 [.list p5, q1, q2, x3, x4, x5, PyData.none, PyData.none, PyData.none, PyData.none, PyData.none, PyData.none, PyData.none] = .ok (.next [.list p5, q1, q2, x3, x4, x5, (q6 x3), PyData.none, PyData.none, PyData.none, PyData.none, PyData.none, PyData.none]) := set_ok (v6 (.list p5) x3 x4 x5 m3)
  have z6 : mSet 7 a7 [.list p5, q1, q2, x3, x4, x5, (q6 x3), PyData.none, PyData.none, PyData.none, PyData.none, PyData.none, PyData.none] = .ok (.next [.list p5, q1, q2, x3, x4, x5, (q6 x3), (q7 x4), PyData.none, PyData.none, PyData.none, PyData.none, PyData.none]) := set_ok (v7 (.list p5) x3 x4 x5 m4)
  have z7 : mPar2 9 10 a9 a10 [.list p5, q1, q2, x3, x4, x5, (q6 x3), (q7 x4), PyData.none, PyData.none, PyData.none, PyData.none, PyData.none] = .ok (.next [.list p5, q1, q2, x3, x4, x5, (q6 x3), (q7 x4), PyData.none, (q9 x4), (q10 x5), PyData.none, PyData.none]) := par2_ok (v9 (.list p5) x3 x4 x5 m4) (v10 (.list p5) x3 x4 x5 m5)
  have zz : mSee N__law_right f__law_is_raised it__law_right [.list p5, q1, q2, x3, x4, x5, (q6 x3), (q7 x4), PyData.none, (q9 x4), (q10 x5), PyData.none, PyData.none] = .ok (.ret (.tuple [.bool true, .list p5])) := by
    unfold mSee
    rw [all_looks _ x3 x4 x5 m3 m4 m5]
    rfl
  have e : m__law_right [.list p, PyData.none, PyData.none, PyData.none, PyData.none, PyData.none, PyData.none, PyData.none, PyData.none, PyData.none, PyData.none, PyData.none, PyData.none] = .ok (.ret (.tuple [.bool true, .list p5])) := (seq_next z0).trans ((seq_next z1).trans ((seq_next z2).trans ((seq_next z3).trans ((seq_next z4).trans ((seq_next z5).trans ((seq_next z6).trans ((seq_next z7).trans (zz))))))))
  unfold f__law_right runM
  rw [show ([PyData.list p] ++ List.replicate 12 PyData.none) = [.list p, PyData.none, PyData.none, PyData.none, PyData.none, PyData.none, PyData.none, PyData.none, PyData.none, PyData.none, PyData.none, PyData.none, PyData.none] from rfl, e]
end PG
set_option maxHeartbeats 2000000
/-! PN 3: the law's loops. -/
namespace PG
open PySem PySem.Spec PyProof.Rows L2 PD
theorem laps_ok : ∀ (n : Nat) {k : Int} {p : List PyData}, PotOk k p → k + 3 * n ≤ 1000 → lapGo f__law_right n p = some true
  | 0, _, _, _, _ => rfl
  | n + 1, k, p, h, hk => by
    obtain ⟨p', e, h'⟩ := right_ok h (by omega)
    obtain ⟨is, hi⟩ := h'.ints
    have ih := laps_ok n h' (by omega)
    unfold lapGo
    rw [e]
    have e2 : setR (.tuple [.bool true, .list p']) = some (.bool true, p') := by
      unfold setR
      subst hi
      simp only [ints_fwd]
    simp only [e2, Option.bind_some, asB, ih, Bool.true_and]
theorem retL_ok {a b c : ME} {e : En} {x y z : PyData} (ha : a e = .ok x) (hb : b e = .ok y) (hc : c e = .ok z) : mRet (mLst (mCons a (mCons b (mCons c mNil)))) e = .ok (.ret (.list [x, y, z])) := by
  unfold mRet mLst mCons mNil
  rw [ha]
  simp only [Res.bind]
  rw [hb]
  simp only [Res.bind]
  rw [hc]
  rfl
theorem if_ok {c : En → Res Bool} {a b : ME} {e : En} {k : Bool} {x : PyData} (hc : c e = .ok k) (ha : k = true → a e = .ok x) (hb : k = false → b e = .ok x) : mIfE c a b e = .ok x := by
  unfold mIfE
  rw [hc]
  cases k with
  | true => exact ha rfl
  | false => exact hb rfl
theorem test_ok {a : ME} {f : PyData → Option Bool} {e : En} {x : PyData} {k : Bool} (ha : a e = .ok x) (hf : f x = some k) : mTest a f e = .ok k := by
  unfold mTest
  rw [ha]
  simp only [Res.bind]
  rw [hf]
  rfl
theorem sl1_ok {e : En} {xs : List PyData} (h : e[0]? = some (.list xs)) : mSlA (mVar 0) mNo (mPart (mC (.int 1))) e = .ok (.list (xs.take 1)) := by
  unfold mSlA mNo mPart mC
  rw [var_ok h]
  have e1 : fSlA (.list xs) none (some 1) = some (.list (xs.take 1)) := by
    show some (PyData.list (PD.cutD xs none (some 1))) = _
    congr 2
    unfold PD.cutD
    cases xs with
    | nil => rfl
    | cons x xs =>
      have : HT.sIx (x :: xs).length (x :: xs).length (some 1) = 1 := by
        simp [HT.sIx]
      have h0 : HT.sIx (x :: xs).length 0 none = 0 := by rfl
      rw [this, h0]
      rfl
  simp only [Res.bind, asI, Res.opt, e1]
theorem pow5_ok {e : En} : mOp2 fPow (mOp2 fPow (mC (.int 10)) (mC (.int 60))) (mC (.int 5)) e = .ok (.int ((10 ^ 60) ^ 5)) :=
  op2_ok (op2_ok con_ok con_ok (pow_int (i := 10) (n := 60) (by decide +kernel))) con_ok (pow_int (i := 10 ^ 60) (n := 5) (by decide +kernel))
theorem pow18_ok {e : En} : mOp2 fPow (mC (.int 10)) (mC (.int 18)) e = .ok (.int (10 ^ 18)) :=
  op2_ok con_ok con_ok (pow_int (i := 10) (n := 18) (by decide +kernel))
theorem pot_ok {ns : List Int} {q : Int} (h0 : 0 ≤ q) (h2 : q ≤ 2) : ∃ pot, f__law_pot [.list (ns.map .int), .int q] = .ok (.list pot) ∧ PotOk 0 pot := by
  obtain ⟨c, hc⟩ : ∃ c : Int, (mIfE (mTest (mOp2 (gd fLt) (mVar 1) (mOpL fLen (mCons (mVar 0) mNil))) asB) (mOp2 fIx (mVar 0) (mVar 1)) (mOp2 fAdd (mOp2 fAdd (mOp2 fMod (mOpL fInt (mCons (mOpL fSum (mCons (mSlA (mVar 0) mNo (mPart (mC (.int 1)))) mNil)) mNil)) (mC (.int 1000003))) (mOp2 fMulT (mC (.int 4013)) (mVar 1))) (mC (.int 9845)))) [.list (ns.map .int), .int q, .none, .none, .none] = .ok (.int c) := by
    have t := test_ok (f := asB) (op2_ok (f := gd fLt) (e := [.list (ns.map .int), .int q, .none, .none, .none]) (var_ok (i := 1) rfl) (opL_ok (f := fLen) (var_ok (i := 0) rfl) rfl) (lt_ints q _)) rfl
    by_cases hl : q < ((ns.map PyData.int).length : Int)
    · obtain ⟨j, rfl⟩ := Int.eq_ofNat_of_zero_le h0
      have hj : j < (ns.map PyData.int).length := by omega
      have hj' : j < ns.length := by simpa using hj
      refine ⟨ns[j], if_ok t (fun _ => op2_ok (var_ok (i := 0) rfl) (var_ok (i := 1) rfl) ?_) fun z => ?_⟩
      · show (ns.map PyData.int)[j]? = _
        rw [List.getElem?_eq_getElem hj, List.getElem_map]
      · rw [decide_eq_true hl] at z; cases z
    · have e1 : fSum [.list ((ns.map PyData.int).take 1)] = some (.int (sumI (ns.take 1))) := by
        show (intsOf ((ns.map PyData.int).take 1)).map _ = _
        rw [← List.map_take, ints_fwd]
        rfl
      refine ⟨_, if_ok t (fun z => ?_) fun _ => op2_ok (op2_ok (op2_ok (opL_ok (f := fInt) (opL_ok (f := fSum) (sl1_ok rfl) e1) rfl) con_ok (mod_ints (by decide))) (op2_ok con_ok (var_ok (i := 1) rfl) (mulT_ints (mulOk_left (by decide) (by decide)))) (add_ints _ _)) con_ok (add_ints _ _)⟩
      rw [decide_eq_false hl] at z; cases z
  generalize ha : (if c < 0 then -c else c) = a
  generalize hb : (if (!decide (a < 10 ^ 18)) then (1 : Int) else 0) = b
  have b0 : 0 ≤ b ∧ b ≤ 1 := by
    rw [← hb]
    cases decide (a < 10 ^ 18) <;> decide
  generalize hM : ((10 : Int) ^ 60) ^ 5 = M
  have M0 : 0 < M := by rw [← hM]; decide +kernel
  have M1 : M ≠ 0 := by omega
  have f0 : 0 ≤ a.fmod M := by
    rw [Int.fmod_eq_emod_of_nonneg _ (by omega)]
    exact Int.emod_nonneg _ M1
  have o0 : 0 ≤ a.fmod M * b := Int.mul_nonneg f0 b0.1
  have s2 : (mSet 3 (mOp2 fMulT (mOp2 fMod (mOpL fInt (mCons (mOpL fAbs (mCons (mVar 2) mNil)) mNil)) (mOp2 fPow (mOp2 fPow (mC (.int 10)) (mC (.int 60))) (mC (.int 5)))) (mOpL fInt (mCons (mOp2 (gd fGe) (mOpL fAbs (mCons (mVar 2) mNil)) (mOp2 fPow (mC (.int 10)) (mC (.int 18)))) mNil)))) [.list (ns.map .int), .int q, .int c, .none, .none] = .ok (.next [.list (ns.map .int), .int q, .int c, .int (a.fmod M * b), .none]) := by
    have v := opL_ok (f := fAbs) (e := [.list (ns.map .int), .int q, .int c, .none, .none]) (var_ok (i := 2) rfl) rfl
    have v' : mOpL fAbs (mCons (mVar 2) mNil) [.list (ns.map .int), .int q, .int c, .none, .none] = .ok (.int a) := by rw [v, ha]
    have e5 := pow5_ok (e := [.list (ns.map .int), .int q, .int c, .none, .none])
    rw [hM] at e5
    have g1 := op2_ok (opL_ok (f := fInt) v' rfl) e5 (mod_ints M1)
    have g2 := opL_ok (f := fInt) (op2_ok (f := gd fGe) v' pow18_ok (ge_ints _ _)) rfl
    have g2' : mOpL fInt (mCons (mOp2 (gd fGe) (mOpL fAbs (mCons (mVar 2) mNil)) (mOp2 fPow (mC (.int 10)) (mC (.int 18)))) mNil) [.list (ns.map .int), .int q, .int c, .none, .none] = .ok (.int b) := by rw [g2, hb]
    exact set_ok (op2_ok g1 g2' (mulT_ints (mulOk_right (by omega) (by omega))))
  generalize hs : c.fmod 2305843009213693951 = s
  have s0 : 0 ≤ s ∧ s < 2305843009213693951 := by
    rw [← hs, Int.fmod_eq_emod_of_nonneg _ (by omega)]
    exact ⟨Int.emod_nonneg _ (by omega), Int.emod_lt_of_pos _ (by omega)⟩
  have s3 : (mSet 4 (mOp2 fMod (mOpL fInt (mCons (mVar 2) mNil)) (mC (.int 2305843009213693951)))) [.list (ns.map .int), .int q, .int c, .int (a.fmod M * b), .none] = .ok (.next [.list (ns.map .int), .int q, .int c, .int (a.fmod M * b), .int s]) := by
    rw [← hs]
    exact set_ok (op2_ok (opL_ok (f := fInt) (var_ok (i := 2) rfl) rfl) con_ok (mod_ints (by decide)))
  generalize hb2 : (s * 98409 + 14635 * q * q + 3413).fmod 2305843009213693921 = b2
  have b20 : 0 ≤ b2 ∧ b2 < 2305843009213693921 := by
    rw [← hb2, Int.fmod_eq_emod_of_nonneg _ (by omega)]
    exact ⟨Int.emod_nonneg _ (by omega), Int.emod_lt_of_pos _ (by omega)⟩
  have s4 := retL_ok (a := mVar 3) (b := (mOp2 fMod (mOpL fInt (mCons (mOp2 fAdd (mOp2 fAdd (mOp2 fMulT (mVar 4) (mC (.int 98409))) (mOp2 fMulT (mOp2 fMulT (mC (.int 14635)) (mVar 1)) (mVar 1))) (mC (.int 3413))) mNil)) (mC (.int 2305843009213693921)))) (c := mC (.int 0)) (e := [.list (ns.map .int), .int q, .int c, .int (a.fmod M * b), .int s]) (var_ok (i := 3) rfl) (op2_ok (opL_ok (f := fInt) (op2_ok (op2_ok (op2_ok (var_ok (i := 4) rfl) con_ok (mulT_ints (mulOk_right (by decide) (by decide)))) (op2_ok (op2_ok con_ok (var_ok (i := 1) rfl) (mulT_ints (mulOk_left (by decide) (by decide)))) (var_ok (i := 1) rfl) (mulT_ints (mulOk_left (by omega) (by omega)))) (add_ints _ _)) con_ok (add_ints _ _)) rfl) con_ok (mod_ints (by decide))) con_ok
  rw [hb2] at s4
  refine ⟨_, ?_, _, _, _, rfl, o0, b20.1, by omega, Int.le_refl 0, Int.le_refl 0⟩
  unfold f__law_pot runFnF m__law_pot
  have e0 : ([.list (ns.map .int), .int q] ++ List.replicate 3 PyData.none) = [.list (ns.map .int), .int q, .none, .none, .none] := rfl
  rw [e0]
  rw [seq_next (set_ok hc)]
  rw [show (([.list (ns.map .int), .int q, .none, .none, .none] : List PyData).set 2 (.int c)) = [.list (ns.map .int), .int q, .int c, .none, .none] from rfl, seq_next s2, seq_next s3, s4]
theorem cells_ok (ns : List Int) : ∃ m : Nat, 1 ≤ m ∧ m ≤ 3 ∧ f__law_cells [.list (ns.map .int), .int 3] = .ok (.list (rgD m)) := by
  have hl : (ns.map PyData.int).length = ns.length := List.length_map ..
  have h1 : (mOpL fMin (mCons (mVar 1) (mCons (mOpL fLen (mCons (mVar 0) mNil)) mNil))) [.list (ns.map .int), .int 3] = .ok (.int (if (ns.length : Int) < 3 then (ns.length : Int) else 3)) := by
    unfold mOpL mCons mNil mVar
    simp only [Res.bind, Res.opt, List.getElem?_cons_zero, List.getElem?_cons_succ, fLen, fMin, hl]
  have go : ∀ m : Nat, 1 ≤ m → m ≤ 3 → (if (if (ns.length : Int) < 3 then (ns.length : Int) else 3) > 1 then (if (ns.length : Int) < 3 then (ns.length : Int) else 3) else 1) = (m : Int) → ∃ m : Nat, 1 ≤ m ∧ m ≤ 3 ∧ f__law_cells [.list (ns.map .int), .int 3] = .ok (.list (rgD m)) := fun m a b e => by
    refine ⟨m, a, b, ?_⟩
    unfold f__law_cells runFnF m__law_cells mRet mOp1
    have e0 : ([.list (ns.map .int), .int 3] ++ List.replicate 0 PyData.none) = [.list (ns.map .int), .int 3] := rfl
    rw [e0]
    have h2 : (mOpL fMax (mCons (mC (.int 1)) (mCons (mOpL fMin (mCons (mVar 1) (mCons (mOpL fLen (mCons (mVar 0) mNil)) mNil))) mNil))) [.list (ns.map .int), .int 3] = .ok (.int (m : Int)) := by
      have q : ∀ (a : ME) (x : PyData), a [.list (ns.map .int), .int 3] = .ok x → mOpL fMax (mCons (mC (.int 1)) (mCons a mNil)) [.list (ns.map .int), .int 3] = Res.opt (fMax [.int 1, x]) := fun a x h => by
        unfold mOpL mCons mNil mC
        rw [h]
        rfl
      rw [q _ _ h1]
      simp only [fMax, Res.opt, e]
    rw [h2]
    have hm : (decide ((0 : Int) ≤ m) && decide ((m : Int) ≤ 16777216)) = true := by simp; omega
    simp only [Res.bind, fListRg, hm, Res.opt]
  by_cases c3 : (ns.length : Int) < 3
  · by_cases c1 : (ns.length : Int) > 1
    · exact go ns.length (by omega) (by omega) (by rw [if_pos c3, if_pos c1])
    · exact go 1 (by omega) (by omega) (by rw [if_pos c3, if_neg c1]; rfl)
  · exact go 3 (by omega) (by omega) (by rw [if_neg c3, if_pos (by omega)]; rfl)
theorem body_ok {ns : List Int} {q : Int} (h0 : 0 ≤ q) (h2 : q ≤ 2) (x y z : PyData) : ∃ y', (mSeq (mSet 2 (mCall f__law_pot (mCons (mVar 0) (mCons (mVar 1) mNil)))) (mSeq (mLaps 6 2 f__law_right) mNext)) [.list (ns.map .int), .int q, y, z] = .ok (.next [.list (ns.map .int), .int q, y', z]) := by
  obtain ⟨pot, e, hp⟩ := pot_ok (ns := ns) h0 h2
  obtain ⟨is, hi⟩ := hp.ints
  refine ⟨.list pot, ?_⟩
  have c : mCall f__law_pot (mCons (mVar 0) (mCons (mVar 1) mNil)) [.list (ns.map .int), .int q, y, z] = .ok (.list pot) := e
  rw [seq_next (set_ok c)]
  have l : mLaps 6 2 f__law_right ([.list (ns.map .int), .int q, .list pot, z]) = .ok (.next [.list (ns.map .int), .int q, .list pot, z]) := by
    unfold mLaps
    have e1 : intsOf pot = some is := by rw [hi, ints_fwd]
    simp only [List.getElem?_cons_succ, List.getElem?_cons_zero, Res.opt, Res.bind, asL, e1, laps_ok 6 hp (by decide)]
  exact seq_next l
theorem for_ok {ns : List Int} : ∀ (qs : List Int), (∀ q ∈ qs, 0 ≤ q ∧ q ≤ 2) → ∀ (x y z : PyData), ∃ x' y', forGo (gSet 1) (mSeq (mSet 2 (mCall f__law_pot (mCons (mVar 0) (mCons (mVar 1) mNil)))) (mSeq (mLaps 6 2 f__law_right) mNext)) [.list (ns.map .int), x, y, z] (qs.map PyData.int) = .ok (.next [.list (ns.map .int), x', y', z])
  | [], _, x, y, z => ⟨x, y, rfl⟩
  | q :: qs, h, x, y, z => by
    obtain ⟨y', e⟩ := body_ok (ns := ns) (h q (by simp)).1 (h q (by simp)).2 x y z
    obtain ⟨x2, y2, e2⟩ := for_ok qs (fun r hr => h r (by simp [hr])) (.int q) y' z
    refine ⟨x2, y2, ?_⟩
    rw [List.map_cons, forGo]
    have g : gSet 1 (PyData.int q) [.list (ns.map .int), x, y, z] = some [.list (ns.map .int), .int q, y, z] := rfl
    rw [g]
    simp only [e]
    exact e2
theorem law_ok (ns : List Int) : f_law [.list (ns.map .int)] = .ok (.bool true) := by
  obtain ⟨m, m1, m3, e⟩ := cells_ok ns
  unfold f_law runFn m_law
  have e0 : ([.list (ns.map .int)] ++ List.replicate 3 PyData.none) = [.list (ns.map .int), .none, .none, .none] := rfl
  rw [e0]
  have hr : rgD (m : Int) = ((List.range m).map fun i => ((i : Nat) : Int)).map PyData.int := by
    unfold rgD
    rw [List.map_map, Int.toNat_natCast]
    rfl
  obtain ⟨x, y, e2⟩ := for_ok (ns := ns) ((List.range m).map fun i => ((i : Nat) : Int)) (fun q hq => by
    obtain ⟨i, hi, rfl⟩ := List.mem_map.mp hq
    have := List.mem_range.mp hi
    constructor <;> omega) .none .none .none
  have f : mFor (mItems (mCall f__law_cells (mCons (mVar 0) (mCons (mC (.int 3)) mNil)))) (gSet 1) (mSeq (mSet 2 (mCall f__law_pot (mCons (mVar 0) (mCons (mVar 1) mNil)))) (mSeq (mLaps 6 2 f__law_right) mNext)) [.list (ns.map .int), .none, .none, .none] = .ok (.next [.list (ns.map .int), x, y, .none]) := by
    unfold mFor mItems
    have c : mCall f__law_cells (mCons (mVar 0) (mCons (mC (.int 3)) mNil)) [.list (ns.map .int), .none, .none, .none] = .ok (.list (rgD m)) := e
    rw [c]
    simp only [Res.bind, seqOf, Res.opt, hr]
    exact e2
  rw [seq_next f]
  rfl
end PG
set_option maxHeartbeats 0
/-! PE 1: the law. -/
namespace PG
open PySem PySem.Spec PyProof.Rows L2 PD
theorem law_at {w : World} {K : PySem.W.Frag} {h : Heap} {mg : Str → Option Value} {fa : Addr} (X : K.In h) (G : h.Ns mainGlobals mg) (hm : mg "law" = some (.ref fa)) (c : He.SaysX fas dfs [] tfs more w h K) (vo : vanObs K = vanVal) : LawAtG PySem.Challenge.rw_nevermelted_k83_what_queues_refuse w K (L2.CX R.prog w) 12 63 "script" mg fa h := by
  obtain ⟨fd, e, b, F⟩ := law_of X G c vo
  have e2 := hm.symm.trans e
  cases e2
  refine ⟨fd, tfs.map (He.cT K), spP K 1 .p f_law, fun p hp => ?_, fun p hp => ?_, fun p hp => ?_, b, fun H a ns _ _ hT s => sp_law (law_ok ns) (tabs_of c hT) (script_rd (noInts_of c) s), fun base _ _ tb => F base tb⟩
  · obtain ⟨q, hq, rfl⟩ := List.mem_map.mp hp
    exact c.empty q hq
  · obtain ⟨q, hq, rfl⟩ := List.mem_map.mp hp
    exact c.out q hq
  · obtain ⟨q, hq, rfl⟩ := List.mem_map.mp hp
    exact PySem.W.codeHd_of_K X (c.hd q hq)
end PG
open PySem PySem.W PySem.Calls PyProof.Rows
theorem PySem.Challenge.cw_nevermelted_k83_what_queues_refuse_holds : PySem.Challenge.rw_nevermelted_k83_what_queues_refuse.Holds := by
  w_on; o_law
  refine HandSHeadRun.head_any (r := OpenLaw.row PySem.Challenge.rw_nevermelted_k83_what_queues_refuse) (q := PG.qv) (H := PG.hk) (ob := PG.ob) (M := 6000) (loose := PG.names) (d := HandSHeadRun.topDef (OpenLaw.row PySem.Challenge.rw_nevermelted_k83_what_queues_refuse).prog 77) (kwd := []) PG.ob_eq
    (by kernel_rfl) (fun s => by kernel_rfl) PG.run (by kernel_rfl) (by kernel_rfl) (by kernel_rfl) (by rfl) (by first | assumption | decide +kernel) (by decide +kernel) ⟨rfl, rfl, rfl, rfl, rfl, by decide +kernel⟩ ?hw ?hc
  case hw => w_witness2
  case hc =>
    refine PD.walk_ofG (l := PySem.Challenge.rw_nevermelted_k83_what_queues_refuse) (n := 63) (k := 12) (x := "script") (CX := fun w => L2.CX PG.R.prog w) rfl (by decide) (by kernel_rfl) ⟨rfl, by decide, by decide⟩ ?F (fun _ _ _ _ _ ⟨_, _, _, _, _, _, _, _, _, _, _, _, z⟩ => z)
    intro w mg fa h Y G hmg0
    obtain ⟨K, KX, c, vo⟩ := Y
    have hmg : mg ("law" : PySem.Str) = some (.ref fa) := by
      have e : (HandSHeadRun.topDef (OpenLaw.row PySem.Challenge.rw_nevermelted_k83_what_queues_refuse).prog 77).name = ("law" : PySem.Str) := by kernel_rfl
      rw [← e]
      exact hmg0
    exact ⟨K, KX, PG.law_at KX G hmg c vo⟩
