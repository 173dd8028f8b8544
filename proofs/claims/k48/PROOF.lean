import PyProof.Rows.All
import Wide.All
import OpenK.AllK
import Wide.FinOn
import HandS.ForMost
import HandS.Exc
import HandS.TryOnly
import HandS.ExcOwn
import HandS.WordsExc
import HandS.TupAny
import HandS.TupMul
import HandS.IsInst
import HandS.Conv
import HandS.Flow
import HandS.Style
import HandS.Deep
import HandS.Zip
import HandS.Defaults
import HandS.Lambda
import HandS.EndTab
import PyProof.ListMulRoad
import KE.DataMinMax
import KE.DatumOrd
import KE.DataIsa
import HandS.Flt
import KE.DataAny
import PyProof.ExcBaseAll.ValueError
import KE.KDictZip
import KE.KDictItemsList
import HandS.Dict
import HandS.Small
import PyProof.DictUpdate
import HandS.SortInts
import KE.KRevSl
import HandS.TryMany
import HandS.Nested
import KE.KNestM
import HandS.MakeKwOnly
import HandS.CallSlots
import PySem.Challenge.RW_paintyard_k48_one_cell_laid
set_option Elab.async false
set_option linter.all false
set_option maxRecDepth 100000
set_option maxHeartbeats 1000000
/-! ## Pm: plain data over the hand layer -/
namespace Pm
open PySem L2

/-- a lambda's or an inner def's words: its parameters, its captured names -/
structure LT where
  name : Str
  qual : Str
  params : Arguments
  body : FuncBody
  scope : Scope
  ps : List Str
  fr : List Str
/-- plain data; town: the shared list of draws; fn: the k-th inner function, with what it captured -/
inductive D where
  | non | bl (b : Bool) | int (i : Int) | str (x : Str)
  | tup (l : List D) | lst (l : List D) | scr (l : List Int)
  | dk (l : List (Key × D)) | dt (l : List (List Key × D))
  | town | fn (k : Nat) (T : LT) (env : List D) | obj (k : Nat)

/-- a slot: nothing, a value, an object that this slot alone holds -/
inductive Sl where
  | no | va (d : D) | ow (d : D)

/-- an object of the world: a list; an instance of a class, with its attributes -/
inductive Ob where
  | lst (l : List D) | ins (c : Str) (fs : List (Str × D))
structure W where
  town : Option (List Int)
  objs : List (Option Ob)
inductive Rs (α : Type) where
  | ok (a : α) (w : W) | ex (c : Str) (w : W) | bad
/-- what is computed: from the world a value, or an exception's class; bad: nothing is told -/
abbrev M (α : Type) := W → Rs α

/-- the addresses of the world's objects -/
structure Wa where
  town : Option Addr
  tabs : List Addr
  ob : List (Addr × Bool)
/-- an object that the world still holds -/
def Wa.lv (ws : Wa) (a : Addr) : Prop := (a, true) ∈ ws.ob
def Wa.has (ws : Wa) (a : Addr) : Prop := ws.town = some a ∨ a ∈ ws.tabs ∨ ws.lv a
structure Wa.le (ws ws' : Wa) : Prop where
  tw : ∀ a, ws.town = some a → ws'.town = some a
  ob : ∀ (k : Nat) (a : Addr) (b : Bool), ws.ob[k]? = some (a, b) → ∃ b', ws'.ob[k]? = some (a, b')
theorem Wa.le_refl (ws : Wa) : ws.le ws := ⟨fun _ h => h, fun _ _ b h => ⟨b, h⟩⟩
theorem Wa.le_trans {a b c : Wa} (h : a.le b) (h' : b.le c) : a.le c := ⟨fun x e => h'.tw x (h.tw x e), fun k x y e => let ⟨_, e1⟩ := h.ob k x y e; h'.ob k x _ e1⟩

/-! ### inner functions: their tables, objects, cells -/
/-- the defs that make an inner function, and its name -/
def makers : List (Str × Str) := [("covered", "<lambda>"), ("stroked", "<lambda>"), ("placed", "<lambda>"), ("laid", "<lambda>"), ("middled", "<lambda>"), ("cut_box", "<lambda>"), ("convolved", "told")]
/-- a def's code object and its table -/
def codeTab (K : PySem.W.Frag) (x : Str) : Option (Addr × Addr) := match PySem.W.nsIn K mainGlobals x with
  | some (some (.ref f)) => (match K.lookup f with
    | some ⟨_, _, .func fd, _⟩ => (match fd.code with
      | .ref c => (match K.lookup c with
        | some ⟨_, _, .fields vs, _⟩ => (match (vs[11]? : Option Value) with
          | some (.ref P) => some (c, P)
          | _ => none)
        | _ => none)
      | _ => none)
    | _ => none)
  | _ => none
def innerName (x : Str × Str) : Str := (x.1 ++ ".<locals>.") ++ x.2
def tabsK (K : PySem.W.Frag) : List (Addr × Str) := makers.filterMap fun x => (codeTab K x.1).map fun p => (p.2, innerName x)
/-- the tables are told -/
def TB (K : PySem.W.Frag) (ws : Wa) (H : Hp) : Prop := ws.tabs = (tabsK K).map (·.1) ∧ LamX.Tabs (tabsK K) H
/-- the object at f is an inner function -/
def LamO (f : Addr) (T : LT) (cl : List (Str × Addr)) (c : Addr) : HO := .ext fun h => ∃ (od : Option Addr) (sl : Array (Option Value)) (doc pm ctv : Value),
  h.get? f = some (⟨.type "function", od, .func { name := T.name, qualname := T.qual, params := T.params, body := T.body, scope := T.scope, globals := mainGlobals, closure := cl, defaults := .none, kwdefaults := .none, doc := doc, pyModule := pm, annotations := none, code := .ref c, closureTuple := ctv, builtins := builtinsNs }, sl⟩ : Obj)
/-- any object -/
def AnyO (a : Addr) : HO := .ext fun h => ∃ o, h.get? a = some o
/-- what the captured cells hold; they are known while somebody else runs -/
structure CellH (B : Addr → Prop) (H : Hp) (cl : List (Str × Addr)) (fr : List Str) (vs : List V) : Prop where
  len : vs.length = fr.length
  inj : ∀ x y c, cl.lookup x = some c → cl.lookup y = some c → x = y
  all : ∀ y c, cl.lookup y = some c → y ∈ fr
  has : ∀ (i : Nat) (y : Str), fr[i]? = some y → ∃ (c : Addr) (o : Obj) (u : Value), cl.lookup y = some c ∧ ¬ B c ∧ H c = some (.frz o (AnyO c)) ∧ o.data = .cell (some u) ∧ ∀ v, vs[i]? = some v → RelV v u

def KT (K : PySem.W.Frag) (a : Addr) (xs : List V) : Prop := ∃ (o : Obj) (its : Array Value) (n : Nat), K.lookup a = some o ∧ o.cls = .type "tuple" ∧ o.data = .seq its n ∧ its.size ≤ sizeLine ∧ Vals xs its.toList
def KL (K : PySem.W.Frag) (a : Addr) (xs : List V) : Prop := ∃ (o : Obj) (its : Array Value) (n : Nat), K.lookup a = some o ∧ o.cls = .type "list" ∧ o.dict = none ∧ o.data = .seq its n ∧ its.size ≤ sizeLine ∧ Vals xs its.toList
def Tp (K : PySem.W.Frag) (B : Addr → Prop) (H : Hp) (a : Addr) (xs : List V) : Prop := (¬ B a ∧ Rd H a (.tup xs)) ∨ KT K a xs

def Lp (K : PySem.W.Frag) (B : Addr → Prop) (H : Hp) (a : Addr) (xs : List V) : Prop := (¬ B a ∧ Rd H a (.lst xs)) ∨ KL K a xs

mutual
/-- the value v tells the data d, and will for ever (B: what may be written) -/
inductive DR (K : PySem.W.Frag) (ws : Wa) (B : Addr → Prop) (H : Hp) : V → D → Prop
  | non : DR K ws B H .non .non
  | bl (b : Bool) : DR K ws B H (.bl b) (.bl b)
  | int (i : Int) : DR K ws B H (.int i) (.int i)
  | str (x : Str) : DR K ws B H (.str x) (.str x)
  | tup {a : Addr} {vs : List V} {ds : List D} : ds.length ≤ sizeLine → Tp K B H a vs → DRs K ws B H vs ds → DR K ws B H (.ref a) (.tup ds)
  | lst {a : Addr} {vs : List V} {ds : List D} : ds.length ≤ sizeLine → ¬ B a → H a = some (.lst vs) → DRs K ws B H vs ds → DR K ws B H (.ref a) (.lst ds)
  | scr {a : Addr} (ns : List Int) : Lp K B H a (ns.map V.int) → DR K ws B H (.ref a) (.scr ns)
  | dk {a : Addr} {kvs : List (Key × V)} {es : List (Key × D)} : ¬ B a → H a = some (.dK kvs) → kvs.map (·.1) = es.map (·.1) → DRs K ws B H (kvs.map (·.2)) (es.map (·.2)) → DR K ws B H (.ref a) (.dk es)
  | dt {a : Addr} {kvs : List (List Key × V)} {es : List (List Key × D)} : ¬ B a → H a = some (.dT kvs) → kvs.map (·.1) = es.map (·.1) → DRs K ws B H (kvs.map (·.2)) (es.map (·.2)) → DR K ws B H (.ref a) (.dt es)
  | town {a : Addr} : ws.town = some a → DR K ws B H (.ref a) .town
  | obj {a : Addr} {k : Nat} {b : Bool} : ws.ob[k]? = some (a, b) → DR K ws B H (.ref a) (.obj k)
  | fn {f c : Addr} {cl : List (Str × Addr)} {k : Nat} {T : LT} {vs : List V} {ds : List D} : ¬ B f → H f = some (LamO f T cl c) → ¬ B c → H c = some (LamX.CodeO c T.qual) → CellH B H cl T.fr vs → DRs K ws B H vs ds → DR K ws B H (.ref f) (.fn k T ds)
inductive DRs (K : PySem.W.Frag) (ws : Wa) (B : Addr → Prop) (H : Hp) : List V → List D → Prop
  | nil : DRs K ws B H [] []
  | cons {v : V} {vs : List V} {d : D} {ds : List D} : DR K ws B H v d → DRs K ws B H vs ds → DRs K ws B H (v :: vs) (d :: ds)
end

section
variable {K : PySem.W.Frag} {ws ws' : Wa} {B B' : Addr → Prop} {H H' : Hp}

theorem rd_keep {a : Addr} {u : HO} (hk : ∀ a o, H a = some o → ¬ B a → H' a = some o) (n : ¬ B a) (h : Rd H a u) : Rd H' a u := by
  rcases h with h | ⟨o, h⟩
  · exact .inl (hk a _ h n)
  · exact .inr ⟨o, hk a _ h n⟩
theorem rd_some {a : Addr} {u : HO} (h : Rd H a u) : H a ≠ none := by
  rcases h with h | ⟨o, h⟩ <;> rw [h] <;> exact fun e => by cases e
theorem nb_keep {a : Addr} (hb : ∀ a, B' a → B a ∨ H a = none) (n : ¬ B a) (h : H a ≠ none) : ¬ B' a := fun b => by
  rcases hb a b with z | z
  · exact n z
  · exact h z
theorem Tp.keep {a : Addr} {xs : List V} (hk : ∀ a o, H a = some o → ¬ B a → H' a = some o) (hb : ∀ a, B' a → B a ∨ H a = none) (h : Tp K B H a xs) : Tp K B' H' a xs := by
  rcases h with ⟨n, h⟩ | h
  · exact .inl ⟨nb_keep hb n (rd_some h), rd_keep hk n h⟩
  · exact .inr h
theorem Lp.keep {a : Addr} {xs : List V} (hk : ∀ a o, H a = some o → ¬ B a → H' a = some o) (hb : ∀ a, B' a → B a ∨ H a = none) (h : Lp K B H a xs) : Lp K B' H' a xs := by
  rcases h with ⟨n, h⟩ | h
  · exact .inl ⟨nb_keep hb n (rd_some h), rd_keep hk n h⟩
  · exact .inr h
theorem Lp.sq {a : Addr} {xs : List V} (h : Lp K B H a xs) : SqL K H a xs := by
  rcases h with ⟨_, h⟩ | h
  · exact .inl h
  · exact .inr h
theorem Tp.sq {a : Addr} {xs : List V} (h : Tp K B H a xs) : SqT K H a xs := by
  rcases h with ⟨_, h⟩ | h
  · exact .inl h
  · exact .inr h
theorem sm {o : HO} {x : Option HO} (h : x = some o) : x ≠ none := by rw [h]; intro z; cases z
theorem CellH.keep {cl : List (Str × Addr)} {fr : List Str} {vs : List V} (hk : ∀ a o, H a = some o → ¬ B a → H' a = some o) (hb : ∀ a, B' a → B a ∨ H a = none) (h : CellH B H cl fr vs) : CellH B' H' cl fr vs :=
  ⟨h.len, h.inj, h.all, fun i y e => let ⟨c, o, u, h1, h2, h3, h4, h5⟩ := h.has i y e; ⟨c, o, u, h1, nb_keep hb h2 (sm h3), hk _ _ h3 h2, h4, h5⟩⟩

mutual
theorem DR.keep (hw : ws.le ws') (hk : ∀ a o, H a = some o → ¬ B a → H' a = some o) (hb : ∀ a, B' a → B a ∨ H a = none) : ∀ {v : V} {d : D}, DR K ws B H v d → DR K ws' B' H' v d
  | _, _, .non => .non
  | _, _, .bl b => .bl b
  | _, _, .int i => .int i
  | _, _, .str x => .str x
  | _, _, .tup z h r => .tup z (h.keep hk hb) (DRs.keep hw hk hb r)
  | _, _, .lst z n h r => .lst z (nb_keep hb n (sm h)) (hk _ _ h n) (DRs.keep hw hk hb r)
  | _, _, .scr ns h => .scr ns (h.keep hk hb)
  | _, _, .dk n h e r => .dk (nb_keep hb n (sm h)) (hk _ _ h n) e (DRs.keep hw hk hb r)
  | _, _, .dt n h e r => .dt (nb_keep hb n (sm h)) (hk _ _ h n) e (DRs.keep hw hk hb r)
  | _, _, .town h => .town (hw.tw _ h)
  | _, _, .obj h => let ⟨_, h⟩ := hw.ob _ _ _ h; .obj h
  | _, _, .fn n1 h1 n2 h2 hc r => .fn (nb_keep hb n1 (sm h1)) (hk _ _ h1 n1) (nb_keep hb n2 (sm h2)) (hk _ _ h2 n2) (hc.keep hk hb) (DRs.keep hw hk hb r)
theorem DRs.keep (hw : ws.le ws') (hk : ∀ a o, H a = some o → ¬ B a → H' a = some o) (hb : ∀ a, B' a → B a ∨ H a = none) : ∀ {vs : List V} {ds : List D}, DRs K ws B H vs ds → DRs K ws' B' H' vs ds
  | _, _, .nil => .nil
  | _, _, .cons h r => .cons (DR.keep hw hk hb h) (DRs.keep hw hk hb r)
end
theorem DRs.length : ∀ {vs : List V} {ds : List D}, DRs K ws B H vs ds → vs.length = ds.length
  | _, _, .nil => rfl
  | _, _, .cons _ r => congrArg (· + 1) (DRs.length r)
theorem DRs.get : ∀ {vs : List V} {ds : List D} {i : Nat} {d : D}, DRs K ws B H vs ds → ds[i]? = some d → ∃ v, vs[i]? = some v ∧ DR K ws B H v d
  | _, _, _, _, .nil, e => by simp at e
  | _, _, 0, _, .cons h _, e => by simp at e; subst e; exact ⟨_, rfl, h⟩
  | _, _, i + 1, d, .cons _ r, e => by
    obtain ⟨v, h1, h2⟩ := DRs.get (i := i) (d := d) r (by simpa using e)
    exact ⟨v, by simpa using h1, h2⟩
theorem DRs.getV : ∀ {vs : List V} {ds : List D} {i : Nat} {v : V}, DRs K ws B H vs ds → vs[i]? = some v → ∃ d, ds[i]? = some d ∧ DR K ws B H v d
  | _, _, _, _, .nil, e => by simp at e
  | _, _, 0, _, .cons h _, e => by simp at e; subst e; exact ⟨_, rfl, h⟩
  | _, _, i + 1, d, .cons _ r, e => by
    obtain ⟨v, h1, h2⟩ := DRs.getV (i := i) (v := d) r (by simpa using e)
    exact ⟨v, by simpa using h1, h2⟩
theorem DRs.append : ∀ {vs us : List V} {ds es : List D}, DRs K ws B H vs ds → DRs K ws B H us es → DRs K ws B H (vs ++ us) (ds ++ es)
  | _, _, _, _, .nil, s => s
  | _, _, _, _, .cons h r, s => .cons h (DRs.append r s)
theorem DRs.take : ∀ {vs : List V} {ds : List D} (n : Nat), DRs K ws B H vs ds → DRs K ws B H (vs.take n) (ds.take n)
  | _, _, 0, _ => .nil
  | _, _, _ + 1, .nil => .nil
  | _, _, n + 1, .cons h r => .cons h (DRs.take n r)
theorem DRs.drop : ∀ {vs : List V} {ds : List D} (n : Nat), DRs K ws B H vs ds → DRs K ws B H (vs.drop n) (ds.drop n)
  | _, _, 0, r => r
  | _, _, _ + 1, .nil => .nil
  | _, _, n + 1, .cons _ r => DRs.drop n r
theorem DRs.set {v : V} {d : D} (h : DR K ws B H v d) : ∀ {vs : List V} {ds : List D} (i : Nat), DRs K ws B H vs ds → DRs K ws B H (vs.set i v) (ds.set i d)
  | _, _, _, .nil => .nil
  | _, _, 0, .cons _ t => .cons h t
  | _, _, i + 1, .cons q t => .cons q (DRs.set h i t)
theorem DRs.reverse : ∀ {vs : List V} {ds : List D}, DRs K ws B H vs ds → DRs K ws B H vs.reverse ds.reverse
  | _, _, .nil => .nil
  | _, _, .cons h r => by simp only [List.reverse_cons]; exact (DRs.reverse r).append (.cons h .nil)
theorem DRs.one {v : V} {d : D} (h : DR K ws B H v d) : DRs K ws B H [v] [d] := .cons h .nil
theorem DRs.replicate {v : V} {d : D} (h : DR K ws B H v d) : ∀ n, DRs K ws B H (List.replicate n v) (List.replicate n d)
  | 0 => .nil
  | n + 1 => .cons h (DRs.replicate h n)
theorem DRs.ints : ∀ (ns : List Int), DRs K ws B H (ns.map V.int) (ns.map D.int)
  | [] => .nil
  | _ :: r => .cons (.int _) (DRs.ints r)
theorem DR.int_of {v : V} {i : Int} (h : DR K ws B H v (.int i)) : v = .int i := by cases h; rfl
theorem DRs.of_ints : ∀ {vs : List V} (ns : List Int), DRs K ws B H vs (ns.map D.int) → vs = ns.map V.int
  | _, [], h => by cases h; rfl
  | _, n :: r, h => by
    cases h with
    | cons h1 h2 => rw [h1.int_of, DRs.of_ints r h2]; rfl
theorem DRs.of_strs : ∀ {vs : List V} (ns : List Str), DRs K ws B H vs (ns.map D.str) → vs = ns.map V.str
  | _, [], h => by cases h; rfl
  | _, n :: r, h => by
    cases h with
    | cons h1 h2 => cases h1; rw [DRs.of_strs r h2]; rfl
theorem DRs.of_bls : ∀ {vs : List V} (ns : List Bool), DRs K ws B H vs (ns.map D.bl) → vs = ns.map V.bl
  | _, [], h => by cases h; rfl
  | _, n :: r, h => by
    cases h with
    | cons h1 h2 => cases h1; rw [DRs.of_bls r h2]; rfl
theorem DRs.strs : ∀ (ns : List Str), DRs K ws B H (ns.map V.str) (ns.map D.str)
  | [] => .nil
  | _ :: r => .cons (.str _) (DRs.strs r)
end

/-- what v reads as just now -/
def DW (K : PySem.W.Frag) (ws : Wa) (B : Addr → Prop) (H : Hp) (v : V) : D → Prop
  | .non => v = .non
  | .bl b => v = .bl b
  | .int i => v = .int i
  | .str x => v = .str x
  | .tup ds => ds.length ≤ sizeLine ∧ ∃ a vs, v = .ref a ∧ Tp K B H a vs ∧ DRs K ws B H vs ds
  | .lst ds => ds.length ≤ sizeLine ∧ ∃ a vs, v = .ref a ∧ H a = some (.lst vs) ∧ DRs K ws B H vs ds
  | .scr ns => ∃ a, v = .ref a ∧ SqL K H a (ns.map V.int)
  | .dk es => ∃ a kvs, v = .ref a ∧ H a = some (.dK kvs) ∧ kvs.map (·.1) = es.map (·.1) ∧ DRs K ws B H (kvs.map (·.2)) (es.map (·.2))
  | .dt es => ∃ a kvs, v = .ref a ∧ H a = some (.dT kvs) ∧ kvs.map (·.1) = es.map (·.1) ∧ DRs K ws B H (kvs.map (·.2)) (es.map (·.2))
  | .town => False
  | .fn _ _ _ => False
  | .obj _ => False

/-- the object of an owned slot -/
def OO (K : PySem.W.Frag) (ws : Wa) (B : Addr → Prop) (H : Hp) (a : Addr) : D → Prop
  | .lst ds => ∃ vs, H a = some (.lst vs) ∧ ds.length ≤ sizeLine ∧ DRs K ws B H vs ds
  | .dk es => ∃ kvs, H a = some (.dK kvs) ∧ kvs.map (·.1) = es.map (·.1) ∧ DRs K ws B H (kvs.map (·.2)) (es.map (·.2))
  | .dt es => ∃ kvs, H a = some (.dT kvs) ∧ kvs.map (·.1) = es.map (·.1) ∧ DRs K ws B H (kvs.map (·.2)) (es.map (·.2))
  | _ => False

def Own (l : List Sl) (σ : L2.St) (a : Addr) : Prop := ∃ (i : Nat) (d : D), l[i]? = some (Sl.ow d) ∧ σ[i]? = some (some (V.ref a))
def Bad (ws : Wa) (B0 : Addr → Prop) (l : List Sl) (σ : L2.St) (a : Addr) : Prop := ws.has a ∨ B0 a ∨ Own l σ a
def TW (ws : Wa) (w : W) (H : Hp) : Prop := match w.town, ws.town with
  | none, none => True
  | some l, some t => H t = some (.lst (l.map V.int))
  | _, _ => False
mutual
/-- the value v tells the data d, made of tuples alone -/
inductive TR (K : PySem.W.Frag) (H : Hp) : V → D → Prop
  | non : TR K H .non .non
  | bl (b : Bool) : TR K H (.bl b) (.bl b)
  | int (i : Int) : TR K H (.int i) (.int i)
  | str (x : Str) : TR K H (.str x) (.str x)
  | tup {a : Addr} {vs : List V} {ds : List D} : ds.length ≤ sizeLine → (Rd H a (.tup vs) ∨ KT K a vs) → TRs K H vs ds → TR K H (.ref a) (.tup ds)
inductive TRs (K : PySem.W.Frag) (H : Hp) : List V → List D → Prop
  | nil : TRs K H [] []
  | cons {v : V} {vs : List V} {d : D} {ds : List D} : TR K H v d → TRs K H vs ds → TRs K H (v :: vs) (d :: ds)
end
section
variable {K : PySem.W.Frag} {H H' : Hp}
mutual
theorem TR.keep (ht : ∀ a xs, Rd H a (.tup xs) → Rd H' a (.tup xs)) : ∀ {v : V} {d : D}, TR K H v d → TR K H' v d
  | _, _, .non => .non
  | _, _, .bl b => .bl b
  | _, _, .int i => .int i
  | _, _, .str x => .str x
  | _, _, .tup z h r => .tup z (h.imp (ht _ _) id) (TRs.keep ht r)
theorem TRs.keep (ht : ∀ a xs, Rd H a (.tup xs) → Rd H' a (.tup xs)) : ∀ {vs : List V} {ds : List D}, TRs K H vs ds → TRs K H' vs ds
  | _, _, .nil => .nil
  | _, _, .cons h r => .cons (TR.keep ht h) (TRs.keep ht r)
end
end
/-- what an object of the world holds -/
def O1 (K : PySem.W.Frag) (H : Hp) (a : Addr) : Ob → Prop
  | .lst ds => ∃ vs, H a = some (.lst vs) ∧ ds.length ≤ sizeLine ∧ TRs K H vs ds
  | .ins _ _ => False
/-- the world's objects are told -/
structure OB (K : PySem.W.Frag) (ws : Wa) (w : W) (H : Hp) : Prop where
  len : ws.ob.length = w.objs.length
  live : ∀ (k : Nat) (o : Ob), w.objs[k]? = some (some o) → ∃ a, ws.ob[k]? = some (a, true) ∧ O1 K H a o
  dead : ∀ (k : Nat), w.objs[k]? = some none → ∃ a, ws.ob[k]? = some (a, false)
  nd : ∀ (j k : Nat) (a : Addr), ws.ob[j]? = some (a, true) → ws.ob[k]? = some (a, true) → j = k
  nt : ∀ a, ws.lv a → ws.town ≠ some a
structure WR (K : PySem.W.Frag) (ws : Wa) (w : W) (H : Hp) : Prop where
  tw : TW ws w H
  tb : TB K ws H
  ob : OB K ws w H
theorem O1.there {K : PySem.W.Frag} {H : Hp} {a : Addr} {o : Ob} (h : O1 K H a o) : ∃ vs, H a = some (.lst vs) := by
  cases o with
  | lst ds => exact ⟨_, h.choose_spec.1⟩
  | ins c fs => exact h.elim
theorem OB.lv_at {K : PySem.W.Frag} {ws : Wa} {w : W} {H : Hp} {a : Addr} (h : OB K ws w H) (z : ws.lv a) : ∃ (k : Nat) (o : Ob), ws.ob[k]? = some (a, true) ∧ w.objs[k]? = some (some o) ∧ O1 K H a o := by
  obtain ⟨k, hk⟩ := List.mem_iff_getElem?.mp z
  have hl : k < w.objs.length := by rw [← h.len]; exact (List.getElem?_eq_some_iff.mp hk).1
  cases q : w.objs[k] with
  | none =>
    obtain ⟨b, e⟩ := h.dead k (by rw [List.getElem?_eq_getElem hl, q])
    rw [hk] at e; cases e
  | some o =>
    have q' : w.objs[k]? = some (some o) := by rw [List.getElem?_eq_getElem hl, q]
    obtain ⟨b, e, r⟩ := h.live k o q'
    rw [hk] at e; cases e
    exact ⟨k, o, hk, q', r⟩
theorem OB.lv_lst {K : PySem.W.Frag} {ws : Wa} {w : W} {H : Hp} {a : Addr} (h : OB K ws w H) (z : ws.lv a) : ∃ vs, H a = some (.lst vs) := by
  obtain ⟨_, _, _, _, r⟩ := h.lv_at z
  exact r.there
theorem O1.keep {K : PySem.W.Frag} {H H' : Hp} {a : Addr} {o : Ob} (ht : ∀ a xs, Rd H a (.tup xs) → Rd H' a (.tup xs)) (ha : ∀ u, H a = some u → H' a = some u) (h : O1 K H a o) : O1 K H' a o := by
  cases o with
  | lst ds => obtain ⟨vs, h1, h2, h3⟩ := h; exact ⟨vs, ha _ h1, h2, h3.keep ht⟩
  | ins c fs => exact h.elim
theorem OB.keep {K : PySem.W.Frag} {ws : Wa} {w : W} {H H' : Hp} (ht : ∀ a xs, Rd H a (.tup xs) → Rd H' a (.tup xs)) (hl : ∀ a o, H a = some o → ws.lv a → H' a = some o) (h : OB K ws w H) : OB K ws w H' :=
  ⟨h.len, fun k o e => let ⟨a, h1, h2⟩ := h.live k o e; ⟨a, h1, h2.keep ht fun u z => hl a u z (List.mem_iff_getElem?.mpr ⟨k, h1⟩)⟩, h.dead, h.nd, h.nt⟩

theorem OB.same {K : PySem.W.Frag} {ws : Wa} {w w' : W} {H : Hp} (e : w'.objs = w.objs) (h : OB K ws w H) : OB K ws w' H := ⟨by rw [e]; exact h.len, fun k o z => h.live k o (by rw [← e]; exact z), fun k z => h.dead k (by rw [← e]; exact z), h.nd, h.nt⟩
/-- a code table grows -/
theorem OB.keep_tbl {K : PySem.W.Frag} {ws : Wa} {w : W} {H H1 : Hp} {P : Addr} {F : Array Value → Prop} (hP : ∃ ps, H P = some (.tbl ps) ∧ F ps) (k1 : ∀ b o, H b = some o → b ≠ P → H1 b = some o) (h : OB K ws w H) : OB K ws w H1 := by
  obtain ⟨ps, hP, _⟩ := hP
  refine h.keep (fun b xs z => ?_) fun b o z l => k1 b o z fun q => ?_
  · rcases z with z | ⟨u, z⟩
    · exact .inl (k1 b _ z fun q => by rw [q, hP] at z; cases z)
    · exact .inr ⟨u, k1 b _ z fun q => by rw [q, hP] at z; cases z⟩
  · obtain ⟨vs, y⟩ := h.lv_lst l
    rw [q, hP] at y; cases y
/-- no inner function, no code, no tuple -/
def BxO : Option HO → Prop
  | some (.ext _) => False
  | some (.tup _) => False
  | some (.frz _ (.tup _)) => False
  | _ => True
theorem BxO.nx {x : Option HO} (h : BxO x) : ∀ φ, x ≠ some (.ext φ) := fun φ e => by rw [e] at h; exact h
theorem BxO.nt {H : Hp} {a : Addr} {xs : List V} (h : BxO (H a)) : ¬ Rd H a (.tup xs) := fun e => by
  rcases e with e | ⟨o, e⟩ <;> rw [e] at h <;> exact h
/-- what is out of bounds is no object of the world, no inner function, no code, no tuple -/
def BX (ws : Wa) (B0 : Addr → Prop) (H : Hp) : Prop := ∀ a, B0 a → ¬ ws.has a ∧ BxO (H a)
theorem BX.keep {ws ws' : Wa} {B0 : Addr → Prop} {H H' : Hp} (b : BX ws B0 H) (d : ∀ a, B0 a → H a ≠ none) (n : ∀ a, ws'.has a → ws.has a ∨ H a = none) (k : ∀ a o, B0 a → H a = some o → H' a = some o) : BX ws' B0 H' := fun a h => by
  refine ⟨fun z => (n a z).elim (b a h).1 (d a h), ?_⟩
  cases q : H a with
  | none => exact absurd q (d a h)
  | some o =>
    rw [k a o h q, ← q]
    exact (b a h).2
theorem WR.wd {K : PySem.W.Frag} {ws : Wa} {w : W} {H : Hp} (h : WR K ws w H) : ∀ a, ws.has a → H a ≠ none := fun a z => by
  obtain ⟨h, ⟨hb1, hb2⟩, hg⟩ := h
  rcases z with z | z | z
  · unfold TW at h
    rw [z] at h
    cases q : w.town with
    | none => rw [q] at h; exact h.elim
    | some l => rw [q] at h; exact sm h
  · rw [hb1] at z
    obtain ⟨p, hp, rfl⟩ := List.mem_map.mp z
    obtain ⟨ps, h1, _⟩ := hb2 p hp
    exact sm h1
  · obtain ⟨vs, h1⟩ := hg.lv_lst z
    exact sm h1
structure Env (K : PySem.W.Frag) (ws : Wa) (B0 : Addr → Prop) (sl : List Sl) (w : W) (σ : L2.St) (H : Hp) : Prop where
  len : sl.length = σ.length
  wr : WR K ws w H
  bx : BX ws B0 H
  dom : ∀ a, B0 a → H a ≠ none
  va : ∀ (i : Nat) (d : D), sl[i]? = some (Sl.va d) → ∃ v, σ[i]? = some (some v) ∧ DR K ws (Bad ws B0 sl σ) H v d
  ow : ∀ (i : Nat) (d : D), sl[i]? = some (Sl.ow d) → ∃ a, σ[i]? = some (some (V.ref a)) ∧ OO K ws (Bad ws B0 sl σ) H a d ∧ ¬ ws.has a ∧ ¬ B0 a
  uq : ∀ (i j : Nat) (d e : D) (a : Addr), sl[i]? = some (Sl.ow d) → sl[j]? = some (Sl.ow e) → σ[i]? = some (some (V.ref a)) → σ[j]? = some (some (V.ref a)) → i = j

theorem Env.wd {K : PySem.W.Frag} {ws : Wa} {B0 : Addr → Prop} {sl : List Sl} {w : W} {σ : L2.St} {H : Hp} (e : Env K ws B0 sl w σ H) : ∀ a, ws.has a → H a ≠ none := e.wr.wd
structure Le (ws : Wa) (O : Addr → Prop) (H : Hp) (ws' : Wa) (O' : Addr → Prop) (H' : Hp) : Prop where
  wle : ws.le ws'
  new : ∀ a, ws'.has a → ws.has a ∨ H a = none
  own : ∀ a, O' a → O a ∨ H a = none
  keep : ∀ a o, H a = some o → ¬ ws.has a → ¬ O a → H' a = some o
  ex : ∀ a, H' a = none → H a = none

section
variable {K : PySem.W.Frag} {ws ws' ws'' : Wa} {B0 : Addr → Prop} {w w' : W} {sl sl' : List Sl} {σ σ' : L2.St} {H H' H'' : Hp} {v : V} {d : D}

theorem Le.refl (ws : Wa) (O : Addr → Prop) (H : Hp) : Le ws O H ws O H := ⟨ws.le_refl, fun _ h => .inl h, fun _ h => .inl h, fun _ _ h _ _ => h, fun _ h => h⟩
theorem Le.trans {O O' O'' : Addr → Prop} (a : Le ws O H ws' O' H') (b : Le ws' O' H' ws'' O'' H'') : Le ws O H ws'' O'' H'' where
  wle := Wa.le_trans a.wle b.wle
  new := fun x h => by
    rcases b.new x h with z | z
    · exact a.new x z
    · exact .inr (a.ex x z)
  own := fun x h => by
    rcases b.own x h with z | z
    · exact a.own x z
    · exact .inr (a.ex x z)
  keep := fun x o e w u => by
    have h1 := a.keep x o e w u
    exact b.keep x o h1 (fun z => by
      rcases a.new x z with q | q
      · exact w q
      · rw [e] at q; cases q) (fun z => by
      rcases a.own x z with q | q
      · exact u q
      · rw [e] at q; cases q)
  ex := fun x h => a.ex x (b.ex x h)

theorem Le.bad (l : Le ws (Own sl σ) H ws' (Own sl' σ') H') : ∀ a, Bad ws' B0 sl' σ' a → Bad ws B0 sl σ a ∨ H a = none := fun a h => by
  rcases h with h | h | h
  · exact (l.new a h).imp .inl id
  · exact .inl (.inr (.inl h))
  · exact (l.own a h).imp (fun z => .inr (.inr z)) id
theorem Le.kp (l : Le ws (Own sl σ) H ws' (Own sl' σ') H') : ∀ a o, H a = some o → ¬ Bad ws B0 sl σ a → H' a = some o := fun a o e n =>
  l.keep a o e (fun z => n (.inl z)) (fun z => n (.inr (.inr z)))
/-- data stays -/
theorem DR.le (l : Le ws (Own sl σ) H ws' (Own sl' σ') H') (h : DR K ws (Bad ws B0 sl σ) H v d) : DR K ws' (Bad ws' B0 sl' σ') H' v d := h.keep l.wle l.kp l.bad
theorem DRs.le {vs : List V} {ds : List D} (l : Le ws (Own sl σ) H ws' (Own sl' σ') H') (h : DRs K ws (Bad ws B0 sl σ) H vs ds) : DRs K ws' (Bad ws' B0 sl' σ') H' vs ds := h.keep l.wle l.kp l.bad
/-- all that is tracked stays, more may come -/
def Grow (H H' : Hp) : Prop := ∀ a o, H a = some o → H' a = some o
theorem Grow.refl (H : Hp) : Grow H H := fun _ _ h => h
theorem Grow.trans (a : Grow H H') (b : Grow H' H'') : Grow H H'' := fun x o h => b x o (a x o h)
theorem Grow.new {p : Addr} {o : HO} (h : H p = none) : Grow H (upd H p o) := fun a u e => by rw [upd_ne (ne_of_none e h)]; exact e
theorem Grow.ex (g : Grow H H') : ∀ a, H' a = none → H a = none := fun a h => by
  cases e : H a with
  | none => rfl
  | some o => rw [g a o e] at h; cases h
theorem Grow.le (g : Grow H H') (ws : Wa) (O : Addr → Prop) : Le ws O H ws O H' := ⟨ws.le_refl, fun _ h => .inl h, fun _ h => .inl h, fun a o e _ _ => g a o e, g.ex⟩
theorem Grow.rd {a : Addr} {u : HO} (g : Grow H H') (h : Rd H a u) : Rd H' a u := by
  rcases h with h | ⟨o, h⟩
  · exact .inl (g a _ h)
  · exact .inr ⟨o, g a _ h⟩
theorem DR.grow {B : Addr → Prop} (g : Grow H H') (h : DR K ws B H v d) : DR K ws B H' v d := h.keep ws.le_refl (fun a o e _ => g a o e) fun _ z => .inl z
theorem DRs.grow {B : Addr → Prop} {vs : List V} {ds : List D} (g : Grow H H') (h : DRs K ws B H vs ds) : DRs K ws B H' vs ds := h.keep ws.le_refl (fun a o e _ => g a o e) fun _ z => .inl z
theorem OO.grow {B : Addr → Prop} {a : Addr} (g : Grow H H') (h : OO K ws B H a d) : OO K ws B H' a d := by
  cases d <;> first
    | exact h
    | (obtain ⟨vs, e, q, r⟩ := h; exact ⟨vs, g _ _ e, q, r.grow g⟩)
theorem TW.grow {w : W} (g : Grow H H') (h : TW ws w H) : TW ws w H' := by
  unfold TW at *
  split at h
  · trivial
  · exact g _ _ h
  · exact h
theorem tabs_keep {T : List (Addr × Str)} (hk : ∀ p ∈ T, ∀ ps, H p.1 = some (.tbl ps) → H' p.1 = some (.tbl ps)) (hc : ∀ c q, H c = some (LamX.CodeO c q) → H' c = some (LamX.CodeO c q)) (h : LamX.Tabs T H) : LamX.Tabs T H' := fun p hp => by
  obtain ⟨ps, h1, h2, h3⟩ := h p hp
  exact ⟨ps, hk p hp ps h1, h2, fun pos cv e => let ⟨c, e1, e2⟩ := h3 pos cv e; ⟨c, e1, hc _ _ e2⟩⟩
theorem TB.keep (hk : ∀ a o, H a = some o → ws.has a → H' a = some o) (hc : ∀ a φ, H a = some (.ext φ) → H' a = some (.ext φ)) (h : TB K ws H) : TB K ws H' :=
  ⟨h.1, tabs_keep (fun p hp ps e => hk _ _ e (.inr (.inl (by rw [h.1]; exact List.mem_map.mpr ⟨p, hp, rfl⟩)))) (fun c q e => hc _ _ e) h.2⟩
theorem TB.grow (g : Grow H H') (h : TB K ws H) : TB K ws H' := h.keep (fun a o e _ => g a o e) fun a φ e => g a _ e
theorem TB.upd {a : Addr} {o : HO} (hn : ¬ ws.has a) (hx : ∀ φ, H a ≠ some (.ext φ)) (h : TB K ws H) : TB K ws (upd H a o) :=
  h.keep (fun b u e z => by rw [upd_ne (fun q => hn (by rw [← q]; exact z))]; exact e) fun b φ e => by rw [upd_ne (fun q => hx φ (by rw [← q]; exact e))]; exact e
theorem TB.same {t t' : Option Addr} {l : List Addr} {b b' : List (Addr × Bool)} (h : TB K ⟨t, l, b⟩ H) : TB K ⟨t', l, b'⟩ H := h
theorem OB.grow {w : W} (g : Grow H H') (h : OB K ws w H) : OB K ws w H' := h.keep (fun _ _ z => g.rd z) fun a o z _ => g a o z
theorem rd_upd {a b : Addr} {o : HO} {xs : List V} (hx : BxO (H a)) (h : Rd H b (.tup xs)) : Rd (upd H a o) b (.tup xs) := by
  have n : b ≠ a := fun z => by subst z; exact hx.nt h
  rcases h with h | ⟨u, h⟩
  · exact .inl (by rw [upd_ne n]; exact h)
  · exact .inr ⟨u, by rw [upd_ne n]; exact h⟩
theorem OB.upd {w : W} {a : Addr} {o : HO} (hn : ¬ ws.has a) (hx : BxO (H a)) (h : OB K ws w H) : OB K ws w (upd H a o) :=
  h.keep (fun _ _ z => rd_upd hx z) fun b u z l => by rw [upd_ne (fun q => hn (by rw [← q]; exact .inr (.inr l)))]; exact z
theorem WR.grow {w : W} (g : Grow H H') (h : WR K ws w H) : WR K ws w H' := ⟨h.1.grow g, h.2.grow g, h.3.grow g⟩
theorem TW.upd {w : W} {a : Addr} {o : HO} (hn : ¬ ws.has a) (hw : TW ws w H) : TW ws w (upd H a o) := by
  unfold TW at hw ⊢
  split
  · trivial
  · rename_i l t e1 e2
    rw [e1, e2] at hw
    rw [upd_ne (fun z => hn (.inl (by rw [← z]; exact e2)))]
    exact hw
  · rename_i h1 h2
    split at hw
    · rename_i e1 e2; exact h1 e1 e2
    · rename_i e1 e2; exact h2 _ _ e1 e2
    · exact hw
theorem WR.upd {w : W} {a : Addr} {o : HO} (hn : ¬ ws.has a) (hx : BxO (H a)) (h : WR K ws w H) : WR K ws w (upd H a o) := ⟨h.1.upd hn, h.2.upd hn hx.nx, h.3.upd hn hx⟩
theorem OO.nx {B : Addr → Prop} {a : Addr} (h : OO K ws B H a d) : BxO (H a) := by
  cases d <;> first
    | exact h.elim
    | (obtain ⟨vs, q, _⟩ := h; rw [q]; trivial)
theorem Env.grow (g : Grow H H') (e : Env K ws B0 sl w σ H) : Env K ws B0 sl w σ H' where
  len := e.len
  wr := e.wr.grow g
  bx := e.bx.keep e.dom (fun _ z => .inl z) fun a o _ z => g a o z
  dom := fun a h z => e.dom a h (g.ex a z)
  va := fun i d h => let ⟨v, h1, h2⟩ := e.va i d h; ⟨v, h1, h2.grow g⟩
  ow := fun i d h => let ⟨a, h1, h2, h3⟩ := e.ow i d h; ⟨a, h1, h2.grow g, h3⟩
  uq := e.uq
theorem OO.there {B : Addr → Prop} {a : Addr} (h : OO K ws B H a d) : H a ≠ none := by
  cases d <;> first
    | exact h.elim
    | (obtain ⟨vs, e, _⟩ := h; rw [e]; intro z; cases z)
theorem Env.bad (e : Env K ws B0 sl w σ H) : ∀ a, Bad ws B0 sl σ a → H a ≠ none := fun a h => by
  rcases h with h | h | ⟨i, d, h1, h2⟩
  · exact e.wd a h
  · exact e.dom a h
  · obtain ⟨b, q1, q2, _⟩ := e.ow i d h1
    rw [h2] at q1
    cases q1
    exact q2.there
theorem Env.fresh (e : Env K ws B0 sl w σ H) {p : Addr} (h : H p = none) : ¬ Bad ws B0 sl σ p := fun b => e.bad p b h

theorem DR.dw {B : Addr → Prop} (h : DR K ws B H v d) (ht : d ≠ .town) (hf : ∀ k T l, d ≠ .fn k T l) (ho : ∀ k, d ≠ .obj k) : DW K ws B H v d := by
  cases h with
  | non => rfl
  | bl b => rfl
  | int i => rfl
  | str x => rfl
  | tup z h r => exact ⟨z, _, _, rfl, h, r⟩
  | lst z n h r => exact ⟨z, _, _, rfl, h, r⟩
  | scr ns h => exact ⟨_, rfl, h.sq⟩
  | dk n h e r => exact ⟨_, _, rfl, h, e, r⟩
  | dt n h e r => exact ⟨_, _, rfl, h, e, r⟩
  | town h => exact absurd rfl ht
  | obj h => exact absurd rfl (ho _)
  | fn _ _ _ _ _ _ => exact absurd rfl (hf _ _ _)
theorem get_set {α : Type} {l : List α} {i j : Nat} {x y : α} (h : (l.set i x)[j]? = some y) : (j = i ∧ y = x ∧ i < l.length) ∨ (j ≠ i ∧ l[j]? = some y) := by
  by_cases e : j = i
  · subst e
    by_cases q : j < l.length
    · rw [List.getElem?_set_self q] at h
      exact .inl ⟨rfl, (Option.some.inj h).symm, q⟩
    · rw [List.getElem?_eq_none (by simpa using q)] at h
      cases h
  · rw [List.getElem?_set_ne (Ne.symm e)] at h
    exact .inr ⟨e, h⟩

end
end Pm
namespace Pm
open PySem L2

/-! ### what is computed -/
def M.pure {α : Type} (a : α) : M α := fun w => .ok a w
def M.bind {α β : Type} (m : M α) (k : α → M β) : M β := fun w => match m w with
  | .ok a w' => k a w'
  | .ex c w' => .ex c w'
  | .bad => .bad
def M.bad {α : Type} : M α := fun _ => .bad
def M.raise {α : Type} (c : Str) : M α := fun w => .ex c w
def M.opt {α : Type} (o : Option α) : M α := match o with
  | some a => M.pure a
  | none => M.bad
section
variable {α β γ : Type}
@[simp] theorem pure_bind (a : α) (k : α → M β) : M.bind (M.pure a) k = k a := rfl
@[simp] theorem bad_bind (k : α → M β) : M.bind (M.bad : M α) k = M.bad := rfl
@[simp] theorem raise_bind (c : Str) (k : α → M β) : M.bind (M.raise c : M α) k = M.raise c := rfl
@[simp] theorem opt_some (a : α) : M.opt (some a) = M.pure a := rfl
@[simp] theorem opt_none : M.opt (none : Option α) = M.bad := rfl
@[simp] theorem bind_assoc (m : M α) (k : α → M β) (g : β → M γ) : M.bind (M.bind m k) g = M.bind m fun a => M.bind (k a) g := by
  funext w
  show (match (match m w with | .ok a w' => k a w' | .ex c w' => .ex c w' | .bad => .bad) with | .ok a w' => g a w' | .ex c w' => .ex c w' | .bad => .bad) = match m w with | .ok a w' => M.bind (k a) g w' | .ex c w' => .ex c w' | .bad => .bad
  cases m w <;> rfl
@[simp] theorem bind_pure (m : M α) : M.bind m M.pure = m := by
  funext w
  show (match m w with | .ok a w' => .ok a w' | .ex c w' => .ex c w' | .bad => .bad) = m w
  cases m w <;> rfl
end
abbrev Ls := List Sl
abbrev Dn := Ls → M D
abbrev Bn := Ls → M Bool
abbrev An := Ls → M (List D)

section
variable (K : PySem.W.Frag) (mg : Str → Option Value) (Wx : WX) (ws : Wa) (B0 : Addr → Prop) (sl : Ls) (σ : L2.St) (H : Hp)
/-- a denotation's outcome, at a world: k behind it, Wx where it raises -/
def runAt {α : Type} (r : Rs α) (k : Wa → W → α → Hp → Prop) : Prop := match r with
  | .ok a w' => ∀ ws' H', Le ws (Own sl σ) H ws' (Own sl σ) H' → Env K ws' B0 sl w' σ H' → k ws' w' a H'
  | .ex c w' => ∀ ws' H' C, mg c = some (.ref C) → Le ws (Own sl σ) H ws' (Own sl σ) H' → Env K ws' B0 sl w' σ H' → Wx (.ref C) none σ H'
  | .bad => False
/-- what is read just now: a slot's own object, or data for ever -/
def RV (v : V) (d : D) : Prop := (∃ i : Nat, sl[i]? = some (.ow d) ∧ σ[i]? = some (some v)) ∨ DR K ws (Bad ws B0 sl σ) H v d
def RVs : List V → List D → Prop := Paired (RV K ws B0 sl σ H)
end
/-- what can be read -/
def rdb : D → Bool
  | .town => false
  | .fn _ _ _ => false
  | .obj _ => false
  | _ => true
section
variable {K : PySem.W.Frag} {mg : Str → Option Value} {Wx : WX} {ws ws' : Wa} {B0 : Addr → Prop} {sl : Ls} {w w' : W} {σ : L2.St} {H H' : Hp} {α β : Type} {r : Rs α} {k k' : Wa → W → α → Hp → Prop} {v : V} {d : D}
theorem RV.le (l : Le ws (Own sl σ) H ws' (Own sl σ) H') (h : RV K ws B0 sl σ H v d) : RV K ws' B0 sl σ H' v d := by
  rcases h with h | h
  · exact .inl h
  · exact .inr (h.le l)
theorem RVs.le (l : Le ws (Own sl σ) H ws' (Own sl σ) H') : ∀ {vs : List V} {ds : List D}, RVs K ws B0 sl σ H vs ds → RVs K ws' B0 sl σ H' vs ds
  | _, _, .nil => .nil
  | _, _, .cons h r => .cons (RV.le l h) (RVs.le l r)
theorem RV.of (h : DR K ws (Bad ws B0 sl σ) H v d) : RV K ws B0 sl σ H v d := .inr h
theorem RVs.of : ∀ {vs : List V} {ds : List D}, DRs K ws (Bad ws B0 sl σ) H vs ds → RVs K ws B0 sl σ H vs ds
  | _, _, .nil => .nil
  | _, _, .cons h r => .cons (.inr h) (RVs.of r)
theorem Env.rv (e : Env K ws B0 sl w σ H) (h : RV K ws B0 sl σ H v d) (hd : rdb d = true) : DW K ws (Bad ws B0 sl σ) H v d := by
  rcases h with ⟨i, h1, h2⟩ | h
  · obtain ⟨a, q1, q2, _⟩ := e.ow i d h1
    rw [h2] at q1
    cases q1
    cases d <;> first
      | exact q2.elim
      | (obtain ⟨vs, p1, p0, p2⟩ := q2; exact ⟨p0, a, vs, rfl, p1, p2⟩)
      | (obtain ⟨vs, p1, p2, p3⟩ := q2; exact ⟨a, vs, rfl, p1, p2, p3⟩)
  · exact h.dw (fun z => by subst z; cases hd) (fun _ _ _ z => by subst z; cases hd) (fun _ z => by subst z; cases hd)
theorem runAt.mono (h : runAt K mg Wx ws B0 sl σ H r k) (f : ∀ ws' w' a H', Le ws (Own sl σ) H ws' (Own sl σ) H' → Env K ws' B0 sl w' σ H' → k ws' w' a H' → k' ws' w' a H') : runAt K mg Wx ws B0 sl σ H r k' := by
  cases r with
  | ok a s' => exact fun ws' H' l e => f ws' s' a H' l e (h ws' H' l e)
  | ex c s' => exact h
  | bad => exact h
theorem runAt.le {ws1 : Wa} {H1 : Hp} (l : Le ws (Own sl σ) H ws1 (Own sl σ) H1) (h : runAt K mg Wx ws B0 sl σ H r k) : runAt K mg Wx ws1 B0 sl σ H1 r k := by
  cases r with
  | ok a s' => exact fun ws' H' l' e => h ws' H' (l.trans l') e
  | ex c s' => exact fun ws' H' C hc l' e => h ws' H' C hc (l.trans l') e
  | bad => exact h
theorem runAt.bind {m : M α} {g : α → M β} {k : Wa → W → β → Hp → Prop} (h : runAt K mg Wx ws B0 sl σ H (M.bind m g w) k) :
    runAt K mg Wx ws B0 sl σ H (m w) (fun ws' w' a H' => runAt K mg Wx ws' B0 sl σ H' (g a w') k) := by
  unfold M.bind at h
  cases q : m w with
  | ok a s1 => rw [q] at h; exact fun ws1 H1 l1 e1 => runAt.le l1 h
  | ex c s' => rw [q] at h; exact h
  | bad => rw [q] at h; exact h
/-- it is there at once -/
theorem runAt.here {a : α} (e : Env K ws B0 sl w σ H) (h : runAt K mg Wx ws B0 sl σ H (.ok a w) k) : k ws w a H := h ws H (Le.refl _ _ _) e
theorem runAt.grow {a : α} {H' : Hp} (g : Grow H H') (e : Env K ws B0 sl w σ H) (h : runAt K mg Wx ws B0 sl σ H (.ok a w) k) : k ws w a H' := h ws H' (g.le _ _) (e.grow g)
theorem runAt.opt {o : Option α} (h : runAt K mg Wx ws B0 sl σ H (M.opt o w) k) : ∃ a, o = some a ∧ runAt K mg Wx ws B0 sl σ H (.ok a w) k := by
  cases o with
  | none => exact h.elim
  | some a => exact ⟨a, rfl, h⟩
end

def tE (K : PySem.W.Frag) (mg : Str → Option Value) (Wx : WX) (f : Dn) : TE := fun σ H Q => ∃ ws B0 sl w, Env K ws B0 sl w σ H ∧ runAt K mg Wx ws B0 sl σ H (f sl w) fun ws' _ d H' => ∀ v, DR K ws' (Bad ws' B0 sl σ) H' v d → Q v H'
def tR (K : PySem.W.Frag) (mg : Str → Option Value) (Wx : WX) (f : Dn) : TE := fun σ H Q => ∃ ws B0 sl w, Env K ws B0 sl w σ H ∧ runAt K mg Wx ws B0 sl σ H (f sl w) fun ws' _ d H' => ∀ v, RV K ws' B0 sl σ H' v d → Q v H'
def tT (K : PySem.W.Frag) (mg : Str → Option Value) (Wx : WX) (f : Bn) : TT := fun σ H Q => ∃ ws B0 sl w, Env K ws B0 sl w σ H ∧ runAt K mg Wx ws B0 sl σ H (f sl w) fun _ _ b H' => Q b H'
def tA (K : PySem.W.Frag) (mg : Str → Option Value) (Wx : WX) (f : An) : TA := fun σ H Q => ∃ ws B0 sl w, Env K ws B0 sl w σ H ∧ runAt K mg Wx ws B0 sl σ H (f sl w) fun ws' _ ds H' => ∀ vs, DRs K ws' (Bad ws' B0 sl σ) H' vs ds → Q vs H'
def tAr (K : PySem.W.Frag) (mg : Str → Option Value) (Wx : WX) (f : An) : TA := fun σ H Q => ∃ ws B0 sl w, Env K ws B0 sl w σ H ∧ runAt K mg Wx ws B0 sl σ H (f sl w) fun ws' _ ds H' => ∀ vs, RVs K ws' B0 sl σ H' vs ds → Q vs H'

/-- e is computed by f -/
abbrev PEm (X : Cx) (Wx : WX) (e : Expr) (f : Dn) : Prop := PE X e (tE X.K X.mg Wx f)
/-- e is read by f -/
abbrev PRm (X : Cx) (Wx : WX) (e : Expr) (f : Dn) : Prop := PE X e (tR X.K X.mg Wx f)
abbrev PTm (X : Cx) (Wx : WX) (e : Expr) (f : Bn) : Prop := PT X e (tT X.K X.mg Wx f)
abbrev PAm (X : Cx) (Wx : WX) (es : List Expr) (f : An) : Prop := PA X es (tA X.K X.mg Wx f)
abbrev PArm (X : Cx) (Wx : WX) (es : List Expr) (f : An) : Prop := PA X es (tAr X.K X.mg Wx f)

theorem _root_.L2.PE.mimp {X : Cx} {e : Expr} {t t' : TE} (h : PE X e t) (f : ∀ σ H Q, t' σ H Q → t σ H Q) : PE X e t' := ⟨fun pins s σ H Q I q => h.run pins s σ H Q I (f _ _ _ q)⟩
theorem _root_.L2.PT.mimp {X : Cx} {e : Expr} {t t' : TT} (h : PT X e t) (f : ∀ σ H Q, t' σ H Q → t σ H Q) : PT X e t' := ⟨fun pins s σ H Q I q => h.run pins s σ H Q I (f _ _ _ q)⟩
theorem _root_.L2.PA.mimp {X : Cx} {e : List Expr} {t t' : TA} (h : PA X e t) (f : ∀ σ H Q, t' σ H Q → t σ H Q) : PA X e t' := ⟨fun pos pins s σ H Q I q => h.run pos pins s σ H Q I (f _ _ _ q)⟩
theorem _root_.L2.PS.mimp {X : Cx} {e : Stmt} {t t' : TS} (h : PS X e t) (f : ∀ D σ H, t' D σ H → t D σ H) : PS X e t' := ⟨fun pins s σ H D I q => h.run pins s σ H D I (f _ _ _ q)⟩
theorem _root_.L2.PSs.mimp {X : Cx} {e : List Stmt} {t t' : TS} (h : PSs X e t) (f : ∀ D σ H, t' D σ H → t D σ H) : PSs X e t' := ⟨fun pins s σ H D I q => h.run pins s σ H D I (f _ _ _ q)⟩

/-! ### names and constants -/
def nVar (i : Nat) : Dn := fun sl => match sl[i]? with
  | some (.va d) => M.pure d
  | _ => M.bad
def nRd (i : Nat) : Dn := fun sl => match sl[i]? with
  | some (.va d) => M.pure d
  | some (.ow d) => M.pure d
  | _ => M.bad
section
variable {X : Cx} {Wx : WX} {e : Expr} {f : Dn}
theorem r_of (h : PEm X Wx e f) : PRm X Wx e f := h.mimp fun σ H Q ⟨ws, B0, sl, w, e, h⟩ => ⟨ws, B0, sl, w, e, h.mono fun ws1 w1 d H1 l1 e1 h1 v hv => h1 v (.inr hv)⟩
theorem m_var (i : Nat) {x : Str} {pos : Pos} (hN : X.N[i]? = some x := by rfl) (hv : Vis X.env.scope x := by first | exact Or.inl rfl | exact Or.inr (Or.inl rfl) | exact Or.inr (Or.inr rfl)) (hd : (x == ("__debug__" : Str)) = false := by decide)
    (hcd : (x == ("__classdict__" : Str)) = false := by decide) : PEm X Wx (.Name x pos) (nVar i) := by
  refine (pe_var hN hv hd hcd).mimp fun σ H Q ⟨ws, B0, sl, w, e, h⟩ => ?_
  unfold nVar at h
  cases q : sl[i]? with
  | none => rw [q] at h; exact h.elim
  | some z =>
    rw [q] at h
    cases z with
    | no => exact h.elim
    | ow d => exact h.elim
    | va d =>
      obtain ⟨v, h1, h2⟩ := e.va i d q
      exact ⟨v, h1, runAt.here e h v h2⟩
theorem r_var (i : Nat) {x : Str} {pos : Pos} (hN : X.N[i]? = some x := by rfl) (hv : Vis X.env.scope x := by first | exact Or.inl rfl | exact Or.inr (Or.inl rfl) | exact Or.inr (Or.inr rfl)) (hd : (x == ("__debug__" : Str)) = false := by decide)
    (hcd : (x == ("__classdict__" : Str)) = false := by decide) : PRm X Wx (.Name x pos) (nRd i) := by
  refine (pe_var hN hv hd hcd).mimp fun σ H Q ⟨ws, B0, sl, w, e, h⟩ => ?_
  unfold nRd at h
  cases q : sl[i]? with
  | none => rw [q] at h; exact h.elim
  | some z =>
    rw [q] at h
    cases z with
    | no => exact h.elim
    | va d =>
      obtain ⟨v, h1, h2⟩ := e.va i d q
      exact ⟨v, h1, runAt.here e h v (.inr h2)⟩
    | ow d =>
      obtain ⟨a, h1, h2, _⟩ := e.ow i d q
      exact ⟨_, h1, runAt.here e h _ (.inl ⟨i, q, h1⟩)⟩
theorem m_c {e : Expr} {v : V} {d : D} (h : PE X e (tC v)) (hd : ∀ ws B H, DR X.K ws B H v d) : PEm X Wx e (fun _ => M.pure d) :=
  h.mimp fun σ H Q ⟨ws, B0, sl, w, e, h⟩ => runAt.here e h v (hd _ _ _)
theorem m_int {i j pos} : PEm X Wx (.Constant (.int i) j pos) (fun _ => M.pure (.int i)) := m_c pe_int fun _ _ _ => .int i
theorem m_bl {b j pos} : PEm X Wx (.Constant (.bool b) j pos) (fun _ => M.pure (.bl b)) := m_c pe_bl fun _ _ _ => .bl b
theorem m_non {j pos} : PEm X Wx (.Constant .none j pos) (fun _ => M.pure .non) := m_c pe_non fun _ _ _ => .non
theorem m_str {x j pos} : PEm X Wx (.Constant (.str x) j pos) (fun _ => M.pure (.str x)) := m_c pe_str fun _ _ _ => .str x
/-- a constant of the module -/
theorem m_glob {x : Str} {v : V} {u : Value} {d : D} {pos : Pos} (hg : Gl X x) (hm : X.mg x = some u) (r : RelV v u) (hd : ∀ ws B H, DR X.K ws B H v d) (hdb : (x == ("__debug__" : Str)) = false := by decide) : PEm X Wx (.Name x pos) (fun _ => M.pure d) := m_c (pe_glob hg hm r hdb) hd

/-! ### operators -/
/-- an operation on values, told by one on data -/
def OpS (K : PySem.W.Frag) (r : R2) (op : D → D → Option D) : Prop := ∀ (ws : Wa) (B : Addr → Prop) (H : Hp) (x y : V) (dx dy d : D) (Q : VK), (∀ a, B a → H a ≠ none) → DW K ws B H x dx → DW K ws B H y dy → op dx dy = some d →
  (∀ v H', Grow H H' → DR K ws B H' v d → Q v H') → r x y H Q
/-- an operation reads -/
def OpT (op : D → D → Option D) : Prop := ∀ x y d, op x y = some d → rdb x = true ∧ rdb y = true
def fBin (op : D → D → Option D) (x y : M D) : M D := x.bind fun a => y.bind fun b => M.opt (op a b)
theorem fBin_go {K : PySem.W.Frag} {mg : Str → Option Value} {r : R2} {op : D → D → Option D} {f g : Dn} (hs : OpS K r op) (ht : OpT op) (σ : L2.St) (H : Hp) (Q : VK) (h : tE K mg Wx (fun sl => fBin op (f sl) (g sl)) σ H Q) : tOp r (tR K mg Wx f) (tR K mg Wx g) σ H Q := by
  obtain ⟨ws, B0, sl, w, e, h⟩ := h
  refine ⟨ws, B0, sl, w, e, (runAt.bind h).mono fun ws1 w1 x H1 l1 e1 h1 v hv => ?_⟩
  refine ⟨ws1, B0, sl, w1, e1, (runAt.bind h1).mono fun ws2 w2 y H2 l2 e2 h2 u hu => ?_⟩
  obtain ⟨d, q3, h2⟩ := runAt.opt h2
  obtain ⟨t1, t2⟩ := ht _ _ _ q3
  exact hs ws2 _ H2 v u x y d Q e2.bad (e2.rv (RV.le l2 hv) t1) (e2.rv hu t2) q3 fun v' H' g hd => runAt.grow g e2 h2 v' hd
theorem m_bin {a b : Expr} {op : Operator} {r : R2} {o : D → D → Option D} {f g : Dn} {pos : Pos} (ho : OpR X (binaryOp op) r) (hs : OpS X.K r o) (ht : OpT o) (ha : PRm X Wx a f) (hb : PRm X Wx b g) : PEm X Wx (.BinOp a op b pos) (fun sl => fBin o (f sl) (g sl)) :=
  (pe_op ho ha hb).mimp fun σ H Q h => fBin_go hs ht σ H Q h
theorem m_cmp {a b : Expr} {op : CmpOp} {r : R2} {o : D → D → Option D} {f g : Dn} {pos : Pos} (ho : OpR X (compareOp op) r) (hs : OpS X.K r o) (ht : OpT o) (ha : PRm X Wx a f) (hb : PRm X Wx b g) (hm : behindInMarks op b = false := by first | exact nomark _ | rfl) : PEm X Wx (.Compare a [op] [b] pos) (fun sl => fBin o (f sl) (g sl)) :=
  (pe_cmpR ho ha hb hm).mimp fun σ H Q h => fBin_go hs ht σ H Q h
end
end Pm
namespace Pm
open PySem PySem.Spec PyProof.Rows L2

/-! ### data: ==, depth -/
mutual
def toPy : D → PyData
  | .non => .none
  | .bl b => .bool b
  | .int i => .int i
  | .str x => .str x
  | .tup l => .tuple (toPys l)
  | .lst l => .list (toPys l)
  | .scr l => .list (l.map PyData.int)
  | .dk _ => .none
  | .dt _ => .none
  | .town => .none
  | .fn _ _ _ => .none
  | .obj _ => .none
def toPys : List D → List PyData
  | [] => []
  | d :: r => toPy d :: toPys r
end
mutual
def deq : D → D → Bool
  | .non, .non => true
  | .bl a, .bl b => a == b
  | .bl a, .int j => (if a then 1 else 0) == j
  | .int i, .bl b => i == (if b then 1 else 0)
  | .int i, .int j => i == j
  | .str x, .str y => x == y
  | .tup xs, .tup ys => deqs xs ys
  | .lst xs, .lst ys => deqs xs ys
  | _, _ => false
def deqs : List D → List D → Bool
  | [], [] => true
  | x :: xs, y :: ys => deq x y && deqs xs ys
  | _, _ => false
end
/-- plain data, nested at most n deep -/
def okd : Nat → D → Bool
  | _, .non => true
  | _, .bl _ => true
  | _, .int _ => true
  | _, .str x => PyData.strOk x
  | n + 1, .tup l => l.all (okd n)
  | n + 1, .lst l => l.all (okd n)
  | _, _ => false
theorem toPys_map : ∀ l : List D, toPys l = l.map toPy
  | [] => rfl
  | d :: r => by rw [toPys, toPys_map r]; rfl
theorem deqs_of {n : Nat} (ih : ∀ x y, okd n x = true → okd n y = true → PyData.eqv (toPy x) (toPy y) = deq x y) : ∀ (xs ys : List D), xs.all (okd n) = true → ys.all (okd n) = true → PyData.eqvAll (toPys xs) (toPys ys) = deqs xs ys
  | [], [], _, _ => rfl
  | [], _ :: _, _, _ => rfl
  | _ :: _, [], _, _ => rfl
  | x :: xs, y :: ys, h1, h2 => by
    simp only [List.all_cons, Bool.and_eq_true] at h1 h2
    show (PyData.eqv (toPy x) (toPy y) && PyData.eqvAll (toPys xs) (toPys ys)) = (deq x y && deqs xs ys)
    rw [ih x y h1.1 h2.1, deqs_of ih xs ys h1.2 h2.2]
theorem deq_of : ∀ (n : Nat) (x y : D), okd n x = true → okd n y = true → PyData.eqv (toPy x) (toPy y) = deq x y := by
  intro n
  induction n with
  | zero =>
    intro x y h1 h2
    cases x <;> cases y <;> first
      | rfl
      | (simp [okd] at h1; done)
      | (simp [okd] at h2; done)
      | (simp only [toPy, deq]; rfl)
      | (simp [toPy, deq, PyData.eqv]; done)
  | succ n ih =>
    intro x y h1 h2
    cases x <;> cases y <;> first
      | rfl
      | (simp [okd] at h1; done)
      | (simp [okd] at h2; done)
      | exact deqs_of ih _ _ h1 h2
      | (simp only [toPy, deq]; rfl)
      | (simp [toPy, deq, PyData.eqv]; done)
theorem canLay_all {n : Nat} (ih : ∀ x, okd n x = true → PyData.canLay0 (toPy x) = true) : ∀ l : List D, l.all (okd n) = true → PyData.canLayAll0 (toPys l) = true
  | [], _ => rfl
  | x :: r, h => by
    simp only [List.all_cons, Bool.and_eq_true] at h
    show (PyData.canLay0 (toPy x) && PyData.canLayAll0 (toPys r)) = true
    rw [ih x h.1, canLay_all ih r h.2]; rfl
theorem canLay_of : ∀ (n : Nat) (x : D), okd n x = true → PyData.canLay0 (toPy x) = true := by
  intro n
  induction n with
  | zero => intro x h; cases x <;> first | rfl | exact h | (simp [okd] at h; done)
  | succ n ih => intro x h; cases x <;> first | rfl | exact canLay_all ih _ h | exact h | (simp [okd] at h; done)
theorem depth_all {n : Nat} (ih : ∀ x, okd n x = true → PyData.depth (toPy x) ≤ n) : ∀ l : List D, l.all (okd n) = true → PyData.depthAll (toPys l) ≤ n
  | [], _ => Nat.zero_le _
  | x :: r, h => by
    simp only [List.all_cons, Bool.and_eq_true] at h
    have h1 := ih x h.1
    have h2 := depth_all ih r h.2
    show max (PyData.depth (toPy x)) (PyData.depthAll (toPys r)) ≤ n
    omega
theorem depth_of : ∀ (n : Nat) (x : D), okd n x = true → PyData.depth (toPy x) ≤ n := by
  intro n
  induction n with
  | zero => intro x h; cases x <;> first | exact Nat.le_refl _ | (simp [okd] at h; done)
  | succ n ih =>
    intro x h
    cases x <;> first
      | exact Nat.zero_le _
      | (simp [okd] at h; done)
      | (have q := depth_all ih _ h
         show PyData.depthAll (toPys _) + 1 ≤ n + 1
         omega)
theorem shaped_of {x : D} {n : Nat} (h : okd n x = true) (hn : n ≤ 64) : SeqAt.shaped (toPy x) = true := by
  unfold SeqAt.shaped
  rw [canLay_of n x h, decide_eq_true (Nat.le_trans (depth_of n x h) hn)]; rfl
section
variable {K : PySem.W.Frag} {ws : Wa} {B : Addr → Prop} {H : Hp} {n : Nat}
theorem dp_all (ih : ∀ v d, okd n d = true → DR K ws B H v d → Dp K H v (toPy d)) : ∀ {vs : List V} {ds : List D}, DRs K ws B H vs ds → ds.all (okd n) = true → DpAll K H vs (toPys ds)
  | _, _, .nil, _ => .nil
  | _, _, .cons h r, q => by
    simp only [List.all_cons, Bool.and_eq_true] at q
    exact .cons (ih _ _ q.1 h) (dp_all ih r q.2)
theorem dp_of : ∀ (n : Nat) (v : V) (d : D), okd n d = true → DR K ws B H v d → Dp K H v (toPy d) := by
  intro n
  induction n with
  | zero => intro v d h r; cases r <;> first | exact .non | exact .bl _ | exact .int _ | exact .str _ | (simp [okd] at h; done)
  | succ n ih =>
    intro v d h r
    cases r with
    | non => exact .non
    | bl b => exact .bl b
    | int i => exact .int i
    | str x => exact .str x
    | tup _ t r => exact .tup t.sq (dp_all ih r h)
    | lst _ _ t r => exact .lst (.inl (.inl t)) (dp_all ih r h)
    | scr => simp [okd] at h
    | dk => simp [okd] at h
    | dt => simp [okd] at h
    | town => simp [okd] at h
    | obj => simp [okd] at h
    | fn => simp [okd] at h
theorem dw_dp {v : V} {d : D} (h : okd n d = true) (r : DW K ws B H v d) : Dp K H v (toPy d) := by
  cases d with
  | non => cases r; exact .non
  | bl b => cases r; exact .bl b
  | int i => cases r; exact .int i
  | str x => cases r; exact .str x
  | tup l =>
    obtain ⟨_, a, vs, rfl, q, r⟩ := r
    cases n with
    | zero => simp [okd] at h
    | succ n => exact .tup q.sq (dp_all (dp_of n) r h)
  | lst l =>
    obtain ⟨_, a, vs, rfl, q, r⟩ := r
    cases n with
    | zero => simp [okd] at h
    | succ n => exact .lst (.inl (.inl q)) (dp_all (dp_of n) r h)
  | _ => exact absurd h (by cases n <;> simp [okd])
end

/-! ### the operations -/
instance (i j : Int) : Decidable (CMul i j) := by unfold CMul; infer_instance
instance (i j : Int) : Decidable (CDiv i j) := by unfold CDiv; infer_instance
def addD : D → D → Option D
  | .int i, .int j => some (.int (i + j))
  | .str x, .str y => if x.length + y.length ≤ sizeLine then some (.str (x ++ y)) else none
  | .tup l, .tup m => if l.length + m.length ≤ sizeLine then some (.tup (l ++ m)) else none
  | .lst l, .lst m => if l.length + m.length ≤ sizeLine then some (.lst (l ++ m)) else none
  | _, _ => none
def subD : D → D → Option D
  | .int i, .int j => some (.int (i - j))
  | _, _ => none
def mulD : D → D → Option D
  | .int i, .int j => if CMul i j then some (.int (i * j)) else none
  | .lst l, .int k => if -(2 ^ 63) ≤ k ∧ k < 2 ^ 63 ∧ l.length * k.toNat ≤ sizeLine then some (.lst (List.replicate k.toNat l).flatten) else none
  | .tup l, .int k => if l ≠ [] ∧ 1 ≤ k ∧ k ≤ 10000 ∧ l.length ≤ 1000 then some (.tup (List.replicate k.toNat l).flatten) else none
  | _, _ => none
def fdivD : D → D → Option D
  | .int i, .int j => if CDiv i j then some (.int (i / j)) else none
  | _, _ => none
def modD : D → D → Option D
  | .int i, .int j => if 0 < j then some (.int (i % j)) else none
  | _, _ => none
def ltD : D → D → Option D
  | .int i, .int j => some (.bl (decide (i < j)))
  | _, _ => none
def leD : D → D → Option D
  | .int i, .int j => some (.bl (decide (i ≤ j)))
  | .str x, .str y => some (.bl (!decide (y.cps.toList < x.cps.toList)))
  | _, _ => none
def gtD : D → D → Option D
  | .int i, .int j => some (.bl (decide (j < i)))
  | _, _ => none
def geD : D → D → Option D
  | .int i, .int j => some (.bl (decide (j ≤ i)))
  | _, _ => none
def scaD : D → D → Bool
  | .non, .non => true
  | .int _, .int _ => true
  | .bl _, .bl _ => true
  | .str _, .str _ => true
  | _, _ => false
def eqD (x y : D) : Option D := if scaD x y = true ∨ (okd 40 x = true ∧ okd 40 y = true) then some (.bl (deq x y)) else none
def neD (x y : D) : Option D := if scaD x y = true ∨ (okd 40 x = true ∧ okd 40 y = true) then some (.bl (!deq x y)) else none

section
variable {K : PySem.W.Frag}
def rAddM (K : PySem.W.Frag) : R2 := fun x y H Q => (rI0 (fun i j => .int (i + j)) x y H Q ∨ (∃ i j, x = .str i ∧ y = .str j ∧ i.length + j.length ≤ sizeLine ∧ Q (.str (i ++ j)) H)) ∨ (rCatA K x y H Q ∨ rCat x y H Q)
theorem op_addM {X : Cx} : OpR X (binaryOp .Add) (rAddM X.K) := ((op_add).or op_add_str).or (op_catA.or op_cat)
theorem Dw.len {ws : Wa} {B : Addr → Prop} {H : Hp} {vs : List V} {ds : List D} (r : DRs K ws B H vs ds) : vs.length = ds.length := r.length
theorem tp_new {ws : Wa} {B : Addr → Prop} {H : Hp} {p : Addr} {vs : List V} {ds : List D} (hb : ∀ a, B a → H a ≠ none) (hp : H p = none) (hz : ds.length ≤ sizeLine) (r : DRs K ws B H vs ds) : DR K ws B (upd H p (.tup vs)) (.ref p) (.tup ds) :=
  .tup hz (.inl ⟨fun z => hb p z hp, .inl upd_same⟩) (r.grow (Grow.new hp))
theorem ls_new {ws : Wa} {B : Addr → Prop} {H : Hp} {p : Addr} {vs : List V} {ds : List D} (hb : ∀ a, B a → H a ≠ none) (hp : H p = none) (hz : ds.length ≤ sizeLine) (r : DRs K ws B H vs ds) : DR K ws B (upd H p (.lst vs)) (.ref p) (.lst ds) :=
  .lst hz (fun z => hb p z hp) upd_same (r.grow (Grow.new hp))
theorem so_add : OpS K (rAddM K) addD := by
  intro ws B H x y dx dy d Q hb hx hy ho q
  cases dx <;> cases dy <;> first
    | (simp [addD] at ho; done)
    | skip
  · rename_i i j
    cases hx; cases hy
    simp only [addD, Option.some.injEq] at ho
    subst ho
    exact .inl (.inl ⟨i, j, rfl, rfl, q _ _ (Grow.refl H) (.int _)⟩)
  · rename_i i j
    cases hx; cases hy
    simp only [addD] at ho
    split at ho
    · rename_i hz
      cases ho
      exact .inl (.inr ⟨i, j, rfl, rfl, hz, q _ _ (Grow.refl H) (.str _)⟩)
    · cases ho
  · rename_i l m
    obtain ⟨zx, a, xs, rfl, ha, ra⟩ := hx
    obtain ⟨zy, b, ys, rfl, hb', rb⟩ := hy
    simp only [addD] at ho
    split at ho
    · rename_i hz
      cases ho
      have l1 := ra.length
      have l2 := rb.length
      refine .inr (.inl ⟨a, b, xs, ys, rfl, rfl, ha.sq, hb'.sq, by omega, fun e => ?_, fun _ e => ?_, fun _ _ p hp => q _ _ (Grow.new hp) (tp_new hb hp (by simpa using hz) (ra.append rb))⟩)
      · subst e
        cases ra
        exact q _ _ (Grow.refl H) (.tup zy hb' rb)
      · subst e
        cases rb
        rw [List.append_nil] at q
        exact q _ _ (Grow.refl H) (.tup zx ha ra)
    · cases ho
  · rename_i l m
    obtain ⟨zx, a, xs, rfl, ha, ra⟩ := hx
    obtain ⟨zy, b, ys, rfl, hb', rb⟩ := hy
    simp only [addD] at ho
    split at ho
    · rename_i hz
      cases ho
      have l1 := ra.length
      have l2 := rb.length
      exact .inr (.inr ⟨a, b, xs, ys, rfl, rfl, ha, hb', by omega, fun p hp => q _ _ (Grow.new hp) (ls_new hb hp (by simpa using hz) (ra.append rb))⟩)
    · cases ho
theorem so_I0 {g : Int → Int → V} {gd : Int → Int → D} {op : D → D → Option D} (h1 : ∀ x y d, op x y = some d → ∃ i j, x = .int i ∧ y = .int j ∧ d = gd i j) (hg : ∀ ws B H i j, DR K ws B H (g i j) (gd i j)) : OpS K (rI0 g) op := by
  intro ws B H x y dx dy d Q hb hx hy ho q
  obtain ⟨i, j, rfl, rfl, rfl⟩ := h1 _ _ _ ho
  cases hx; cases hy
  exact ⟨i, j, rfl, rfl, q _ _ (Grow.refl H) (hg _ _ _ i j)⟩
theorem so_I {C : Int → Int → Prop} {g : Int → Int → V} {gd : Int → Int → D} {op : D → D → Option D} (h1 : ∀ x y d, op x y = some d → ∃ i j, x = .int i ∧ y = .int j ∧ C i j ∧ d = gd i j) (hg : ∀ ws B H i j, DR K ws B H (g i j) (gd i j)) : OpS K (rI C g) op := by
  intro ws B H x y dx dy d Q hb hx hy ho q
  obtain ⟨i, j, rfl, rfl, hc, rfl⟩ := h1 _ _ _ ho
  cases hx; cases hy
  exact ⟨i, j, rfl, rfl, hc, q _ _ (Grow.refl H) (hg _ _ _ i j)⟩
theorem so_sub : OpS K (rI0 fun i j => .int (i - j)) subD := so_I0 (gd := fun i j => .int (i - j)) (fun x y d h => by
  cases x <;> cases y <;> first | (simp [subD] at h; done) | (simp only [subD, Option.some.injEq] at h; exact ⟨_, _, rfl, rfl, h.symm⟩)) fun _ _ _ _ _ => .int _
theorem so_fdiv : OpS K (rI CDiv fun i j => .int (i / j)) fdivD := so_I (gd := fun i j => .int (i / j)) (fun x y d h => by
  cases x <;> cases y <;> first | (simp [fdivD] at h; done) | (simp only [fdivD] at h; split at h <;> first | (cases h; exact ⟨_, _, rfl, rfl, by assumption, rfl⟩) | cases h)) fun _ _ _ _ _ => .int _
theorem so_mod : OpS K (rI (fun _ j => 0 < j) fun i j => .int (i % j)) modD := so_I (gd := fun i j => .int (i % j)) (fun x y d h => by
  cases x <;> cases y <;> first | (simp [modD] at h; done) | (simp only [modD] at h; split at h <;> first | (cases h; exact ⟨_, _, rfl, rfl, by assumption, rfl⟩) | cases h)) fun _ _ _ _ _ => .int _
theorem so_lt : OpS K (rI0 fun i j => .bl (decide (i < j))) ltD := so_I0 (gd := fun i j => .bl (decide (i < j))) (fun x y d h => by
  cases x <;> cases y <;> first | (simp [ltD] at h; done) | (simp only [ltD, Option.some.injEq] at h; exact ⟨_, _, rfl, rfl, h.symm⟩)) fun _ _ _ _ _ => .bl _
theorem so_gt : OpS K (rI0 fun i j => .bl (decide (j < i))) gtD := so_I0 (gd := fun i j => .bl (decide (j < i))) (fun x y d h => by
  cases x <;> cases y <;> first | (simp [gtD] at h; done) | (simp only [gtD, Option.some.injEq] at h; exact ⟨_, _, rfl, rfl, h.symm⟩)) fun _ _ _ _ _ => .bl _
theorem so_ge : OpS K (rI0 fun i j => .bl (decide (j ≤ i))) geD := so_I0 (gd := fun i j => .bl (decide (j ≤ i))) (fun x y d h => by
  cases x <;> cases y <;> first | (simp [geD] at h; done) | (simp only [geD, Option.some.injEq] at h; exact ⟨_, _, rfl, rfl, h.symm⟩)) fun _ _ _ _ _ => .bl _
def rLeM : R2 := fun x y H Q => rI0 (fun i j => .bl (decide (i ≤ j))) x y H Q ∨ (∃ i j, x = .str i ∧ y = .str j ∧ Q (.bl (!decide (j.cps.toList < i.cps.toList))) H)
theorem op_leM {X : Cx} : OpR X (compareOp .LtE) rLeM := op_le.or op_le_str
theorem so_le : OpS K rLeM leD := by
  intro ws B H x y dx dy d Q hb hx hy ho q
  cases dx <;> cases dy <;> first
    | (simp [leD] at ho; done)
    | (cases hx; cases hy
       simp only [leD, Option.some.injEq] at ho
       subst ho
       first
         | exact .inl ⟨_, _, rfl, rfl, q _ _ (Grow.refl H) (.bl _)⟩
         | exact .inr ⟨_, _, rfl, rfl, q _ _ (Grow.refl H) (.bl _)⟩)
/-! ### a * b -/
/-! ### a tuple, once -/
theorem tuple_mul1 (l : Addr) (items : Array Value) (n : Nat) (dd : Option Addr) (sl : Array (Option Value)) (u : Tok) :
    Meets (Builtin.«tuple.__mul__» ⟨[.ref l, .int 1 u], []⟩) (fun _ R s => s.heap.get? l = some { cls := .type "tuple", dict := dd, data := .seq items n, slots := sl } ∧ R (.ok (.ret (Value.ref l))) s) :=
  .of_wp fun prog w A R s h => by
    obtain ⟨hp, g, d, tk, os⟩ := s
    obtain ⟨hl, h⟩ := h
    have f1 := AutoSeq1.idx_int
    have c0 : (decide ((1 : Int) < -(2 ^ 63)) || decide ((1 : Int) ≥ 2 ^ 63)) = false := by decide
    have c1 : (items.isEmpty || (1 : Int) == 1) = true := by simp
    wp_walk using wpAny_loadPart' hl
    repeat (first
      | (refine wpAny_ite_false (decide_eq_false (by rw [c0]; exact Bool.false_ne_true)) ?_; wp_walk using wpAny_loadPart' hl)
      | (refine wpAny_ite_true (decide_eq_true c1) ?_; wp_walk using wpAny_loadPart' hl))
    exact ⟨_, rfl, h⟩
def rRep1 (K : PySem.W.Frag) : R2 := fun x y H Q => ∃ l xs, x = .ref l ∧ y = .int 1 ∧ SqT K H l xs ∧ Q (.ref l) H
theorem op_rep1 {X : Cx} : OpR X (binaryOp .Mult) (rRep1 X.K) := by
  intro pins s σ H x y v u Q I rx ry h
  obtain ⟨l, xs, rfl, rfl, hT, q⟩ := h
  cases rx
  obtain ⟨t, rfl⟩ := ry
  obtain ⟨its, r, ⟨⟨cls, dd, data, sl⟩, ho, hc, n, hd⟩, hs⟩ := I.tuple hT
  simp only at hc hd
  subst hc hd
  refine wpAny_binaryOp_repeat_ref (T := "tuple") (U := "int") (by decide) ⟨_, ho, rfl⟩ (fun s' => typeIs_int s' 1 t) noFill_tuple_mul F.fills_int_mul F.slot_int_rmul repeat_tuple F.slot_int_index.lookup
    (call_meets F.slot_int_rmul (typeIs_int s 1 t) F.entry_int_rmul (F.args_int_rmul_2 _ _) (int_rmul_tuple 1 t l its.toArray n dd sl)
      ⟨ho, rfl, ⟨_, ho, rfl⟩, call_meets F.slot_tuple_mul ⟨_, ho, rfl⟩ F.entry_tuple_mul (F.args_tuple_mul_2 _ _) (tuple_mul1 l its.toArray n dd sl t) ⟨ho, ?_⟩⟩)
  exact ⟨.ref l, H, I, rfl, q⟩
/-- t * k, up to ten thousand times -/
def rRepU (K : PySem.W.Frag) : R2 := fun x y H Q => ∃ l k xs, x = .ref l ∧ y = .int k ∧ SqT K H l xs ∧ xs ≠ [] ∧ 2 ≤ k ∧ k ≤ 10000 ∧ xs.length ≤ 1000 ∧ ∀ p, H p = none → Q (.ref p) (upd H p (.tup (List.replicate k.toNat xs).flatten))
theorem op_repU {X : Cx} : OpR X (binaryOp .Mult) (rRepU X.K) := by
  intro pins s σ H x y v u Q I rx ry h
  obtain ⟨l, k, xs, rfl, rfl, hT, ne, k1, k2, z, q⟩ := h
  cases rx
  obtain ⟨t, rfl⟩ := ry
  obtain ⟨ws, r, ⟨⟨cl, dd, da, sl⟩, ho, e1, n, e2⟩, _⟩ := I.tuple hT
  simp only at e1 e2
  subst e1 e2
  have hl : ws.length = xs.length := r.length.symm
  have hi : ws.toArray.isEmpty = false := by
    cases ws with
    | nil => exact absurd (List.eq_nil_of_length_eq_zero hl.symm) ne
    | cons _ _ => rfl
  have hw : ws.toArray.size = xs.length := by rw [List.size_toArray, hl]
  have big : (xs.length : Int) * k ≤ 1000 * k := Int.mul_le_mul_of_nonneg_right (by omega) (by omega)
  have many : k.toNat * xs.length ≤ 10000 * 1000 := Nat.mul_le_mul (by omega) z
  have len : (List.replicate k.toNat ws).flatten.length ≤ sizeLine := by rw [PyProof.Rows.lm_len_rep_flat, hl, sizeLine_eq]; omega
  have t1 : (decide (k < -(2 ^ 63)) || decide (k ≥ 2 ^ 63)) = false := by rw [decide_eq_false (by omega), decide_eq_false (by omega)] <;> rfl
  have t2 : (ws.toArray.isEmpty || k == 1) = false := by rw [hi, Bool.false_or]; exact beq_eq_false_iff_ne.mpr (by omega)
  have t3 : (decide (k ≤ 0) || ws.toArray.isEmpty) = false := by rw [hi, Bool.or_false]; exact decide_eq_false (by omega)
  have t4 : Builtin.Tuple.tupleTooMany (((ws.toArray.size : Nat) : Int) * k) = false := by unfold Builtin.Tuple.tupleTooMany; rw [sizeLine_eq, hw]; exact decide_eq_false (by omega)
  have t5 : ¬ ((ws.toArray.size : Nat) : Int) * k > (2 ^ 63 - 1) / 8 := by rw [hw]; omega
  refine wpAny_binaryOp_repeat_ref (T := "tuple") (U := "int") (by decide) ⟨_, ho, rfl⟩ (fun s' => PySem.typeIs_int s' k t) noFill_tuple_mul F.fills_int_mul F.slot_int_rmul repeat_tuple F.slot_int_index.lookup
    (call_meets F.slot_int_rmul (PySem.typeIs_int s k t) F.entry_int_rmul (F.args_int_rmul_2 _ _) (int_rmul_tuple k t l ws.toArray n dd sl) ⟨ho, rfl, ⟨_, ho, rfl⟩, call_meets F.slot_tuple_mul ⟨_, ho, rfl⟩ F.entry_tuple_mul (F.args_tuple_mul_2 _ _) (tuple_mulW l ws.toArray n dd sl k t t1 t2 t3 t5 t4 (by rw [size_rep, List.size_toArray]; exact len)) ⟨ho, ?_⟩⟩)
  rw [size_rep]
  refine ⟨.ref s.heap.objs.size, _, I.laid (t' := s.toks) (o := .tup (List.replicate k.toNat xs).flatten) (fun b ob q => Heap.get?_push_of_some _ q) (Nat.le_refl _) ?_, rfl, q _ (I.hok.fresh (Nat.le_refl _))⟩
  exact ⟨by rw [PyProof.Rows.lm_len_rep_flat, sizeLine_eq]; omega, _, r.rep k.toNat, IsTup.new _ _⟩
def rMulM (K : PySem.W.Frag) : R2 := fun x y H Q => (rI CMul (fun i j => .int (i * j)) x y H Q ∨ rRep x y H Q) ∨ (rRepU K x y H Q ∨ rRep1 K x y H Q)
theorem op_mulM {X : Cx} : OpR X (binaryOp .Mult) (rMulM X.K) := (op_mul.or op_rep).or (op_repU.or op_rep1)
theorem DRs.rep {ws : Wa} {B : Addr → Prop} {H : Hp} {vs : List V} {ds : List D} (r : DRs K ws B H vs ds) : ∀ n, DRs K ws B H (List.replicate n vs).flatten (List.replicate n ds).flatten
  | 0 => .nil
  | n + 1 => by rw [List.replicate_succ, List.replicate_succ, List.flatten_cons, List.flatten_cons]; exact r.append (DRs.rep r n)
theorem rep_len {α : Type} (l : List α) : ∀ n : Nat, (List.replicate n l).flatten.length = l.length * n
  | 0 => by simp
  | n + 1 => by rw [List.replicate_succ, List.flatten_cons, List.length_append, rep_len l n, Nat.mul_succ, Nat.add_comm]
theorem so_mul : OpS K (rMulM K) mulD := by
  intro ws B H x y dx dy d Q hb hx hy ho q
  cases dx <;> cases dy <;> first
    | (simp [mulD] at ho; done)
    | skip
  · cases hx; cases hy
    simp only [mulD] at ho
    split at ho
    · cases ho; exact .inl (.inl ⟨_, _, rfl, rfl, by assumption, q _ _ (Grow.refl H) (.int _)⟩)
    · cases ho
  · rename_i l k
    obtain ⟨zx, a, vs, rfl, t, r⟩ := hx
    have hy : y = .int k := hy
    subst hy
    simp only [mulD] at ho
    split at ho
    · rename_i h1
      cases ho
      by_cases hk : k = 1
      · subst hk
        have e : (List.replicate (1 : Int).toNat l).flatten = l := by simp
        rw [e] at q
        exact .inr (.inr ⟨a, vs, rfl, rfl, t.sq, q _ _ (Grow.refl H) (.tup zx t r)⟩)
      · have hl := r.length
        refine .inr (.inl ⟨a, k, vs, rfl, rfl, t.sq, fun z => h1.1 (List.eq_nil_of_length_eq_zero (by rw [← hl, z]; rfl)), by omega, h1.2.2.1, by rw [hl]; exact h1.2.2.2, fun p hp => ?_⟩)
        refine q _ _ (Grow.new hp) (tp_new hb hp ?_ (r.rep k.toNat))
        rw [rep_len]
        have h2 : l.length * k.toNat ≤ 1000 * 10000 := Nat.mul_le_mul h1.2.2.2 (by omega)
        exact Nat.le_trans h2 (by decide)
    · cases ho
  · obtain ⟨zx, a, xs, rfl, ha, ra⟩ := hx
    cases hy
    simp only [mulD] at ho
    split at ho
    · rename_i hc
      cases ho
      have l1 := ra.length
      exact .inl (.inr ⟨a, _, xs, rfl, rfl, ha, hc.1, hc.2.1, by rw [l1]; exact hc.2.2, fun p hp => q _ _ (Grow.new hp) (ls_new hb hp (by rw [rep_len]; exact hc.2.2) (ra.rep _))⟩)
    · cases ho

/-! ### == -/
def rEqM (K : PySem.W.Frag) : R2 := fun x y H Q => rEq x y H Q ∨ rEqD K x y H Q
def rNeM (K : PySem.W.Frag) : R2 := fun x y H Q => rNe x y H Q ∨ rNeD K x y H Q
theorem op_eqM {X : Cx} (hu : X.A.units + 64 < cLine) : OpR X (compareOp .Eq) (rEqM X.K) := op_eq.or (op_eqD hu)
theorem op_neM {X : Cx} (hu : X.A.units + 64 < cLine) : OpR X (compareOp .NotEq) (rNeM X.K) := op_ne.or (op_neD hu)
theorem sca_eq {ws : Wa} {B : Addr → Prop} {H : Hp} {x y : V} {dx dy : D} (h : scaD dx dy = true) (hx : DW K ws B H x dx) (hy : DW K ws B H y dy) : scal x y = true ∧ decide (x = y) = deq dx dy := by
  cases dx <;> cases dy <;> first
    | (simp [scaD] at h; done)
    | (cases hx; cases hy
       refine ⟨rfl, ?_⟩
       first
         | rfl
         | (simp only [deq]
            rw [Bool.beq_eq_decide_eq]
            congr 1
            simp)
         | (simp only [deq]
            rw [Bool.eq_iff_iff]
            simp))
theorem so_eq : OpS K (rEqM K) eqD := by
  intro ws B H x y dx dy d Q hb hx hy ho q
  unfold eqD at ho
  split at ho
  · rename_i hc
    cases ho
    rcases hc with hc | ⟨h1, h2⟩
    · obtain ⟨e1, e2⟩ := sca_eq hc hx hy
      exact .inl ⟨e1, by rw [e2]; exact q _ _ (Grow.refl H) (.bl _)⟩
    · refine .inr ⟨_, _, dw_dp h1 hx, dw_dp h2 hy, shaped_of h1 (by decide), shaped_of h2 (by decide), ?_⟩
      rw [deq_of 40 _ _ h1 h2]
      exact q _ _ (Grow.refl H) (.bl _)
  · cases ho
theorem so_ne : OpS K (rNeM K) neD := by
  intro ws B H x y dx dy d Q hb hx hy ho q
  unfold neD at ho
  split at ho
  · rename_i hc
    cases ho
    rcases hc with hc | ⟨h1, h2⟩
    · obtain ⟨e1, e2⟩ := sca_eq hc hx hy
      exact .inl ⟨e1, by rw [e2]; exact q _ _ (Grow.refl H) (.bl _)⟩
    · refine .inr ⟨_, _, dw_dp h1 hx, dw_dp h2 hy, shaped_of h1 (by decide), shaped_of h2 (by decide), ?_⟩
      rw [deq_of 40 _ _ h1 h2]
      exact q _ _ (Grow.refl H) (.bl _)
  · cases ho
end
/-! ### they read -/
theorem ot_add : OpT addD := fun x y d h => by cases x <;> cases y <;> first | exact ⟨rfl, rfl⟩ | cases h
theorem ot_sub : OpT subD := fun x y d h => by cases x <;> cases y <;> first | exact ⟨rfl, rfl⟩ | cases h
theorem ot_mul : OpT mulD := fun x y d h => by cases x <;> cases y <;> first | exact ⟨rfl, rfl⟩ | cases h
theorem ot_fdiv : OpT fdivD := fun x y d h => by cases x <;> cases y <;> first | exact ⟨rfl, rfl⟩ | cases h
theorem ot_mod : OpT modD := fun x y d h => by cases x <;> cases y <;> first | exact ⟨rfl, rfl⟩ | cases h
theorem ot_lt : OpT ltD := fun x y d h => by cases x <;> cases y <;> first | exact ⟨rfl, rfl⟩ | cases h
theorem ot_le : OpT leD := fun x y d h => by cases x <;> cases y <;> first | exact ⟨rfl, rfl⟩ | cases h
theorem ot_gt : OpT gtD := fun x y d h => by cases x <;> cases y <;> first | exact ⟨rfl, rfl⟩ | cases h
theorem ot_ge : OpT geD := fun x y d h => by cases x <;> cases y <;> first | exact ⟨rfl, rfl⟩ | cases h
theorem rdb_ok {n : Nat} {x : D} (h : okd n x = true) : rdb x = true := by cases x <;> first | rfl | (cases n <;> cases h)
theorem rdb_sca {x y : D} (h : scaD x y = true) : rdb x = true ∧ rdb y = true := by cases x <;> cases y <;> first | exact ⟨rfl, rfl⟩ | cases h
theorem ot_eq : OpT eqD := fun x y d h => by
  unfold eqD at h
  split at h
  · rename_i hc
    rcases hc with hc | ⟨h1, h2⟩
    · exact rdb_sca hc
    · exact ⟨rdb_ok h1, rdb_ok h2⟩
  · cases h
theorem ot_ne : OpT neD := fun x y d h => by
  unfold neD at h
  split at h
  · rename_i hc
    rcases hc with hc | ⟨h1, h2⟩
    · exact rdb_sca hc
    · exact ⟨rdb_ok h1, rdb_ok h2⟩
  · cases h
end Pm
namespace Pm
open PySem L2

/-! ### tests -/
def truD : D → Option Bool
  | .non => some false
  | .bl b => some b
  | .int i => some (i != 0)
  | .str x => if x.length ≤ sizeLine then some ((x.length : Int) != 0) else none
  | .tup l => some (!l.isEmpty)
  | .lst l => some (!l.isEmpty)
  | .scr l => some (!l.isEmpty)
  | .dk l => some (!l.isEmpty)
  | _ => none
def fTru (x : M D) : M Bool := x.bind fun d => M.opt (truD d)
/-- a bool -/
def blD : D → Option Bool
  | .bl b => some b
  | _ => none
def fOf (x : M D) : M Bool := x.bind fun d => M.opt (blD d)
def fIf {α : Type} (c : M Bool) (f g : M α) : M α := c.bind fun b => if b = true then f else g
def fAndB (f g : M Bool) : M Bool := f.bind fun b => if b = true then g else M.pure false
def fOrB (f g : M Bool) : M Bool := f.bind fun b => if b = true then M.pure true else g
def fNotB (f : M Bool) : M Bool := f.bind fun b => M.pure (!b)
/-- x and y, x or y as values: x a bool -/
def fAnd (f g : M D) : M D := f.bind fun x => (M.opt (blD x)).bind fun b => if b = true then g else M.pure (.bl false)
def fOr (f g : M D) : M D := f.bind fun x => (M.opt (blD x)).bind fun b => if b = true then M.pure (.bl true) else g
def fNot (f : M D) : M D := f.bind fun x => (M.opt (truD x)).bind fun b => M.pure (.bl (!b))

section
variable {K : PySem.W.Frag} {mg : Str → Option Value} {Wx : WX} {ws : Wa} {B0 : Addr → Prop} {σ : L2.St} {H : Hp} {v : V}
theorem tru_of {B : Addr → Prop} {d : D} {b : Bool} (h : DW K ws B H v d) (ht : truD d = some b) : TruV K v H b := by
  cases d with
  | non => cases h; cases ht; rfl
  | bl => cases h; cases ht; rfl
  | int => cases h; cases ht; rfl
  | str x =>
    cases h
    simp only [truD] at ht
    split at ht
    · cases ht; exact ⟨by assumption, rfl⟩
    · cases ht
  | tup l =>
    obtain ⟨_, a, vs, rfl, q, r⟩ := h
    cases ht
    exact .inr (.inl ⟨vs, q.sq, by cases r <;> rfl⟩)
  | lst l =>
    obtain ⟨_, a, vs, rfl, q, r⟩ := h
    cases ht
    exact .inl ⟨vs, .inl (.inl q), by cases r <;> rfl⟩
  | scr l =>
    obtain ⟨a, rfl, q⟩ := h
    cases ht
    exact .inl ⟨_, q, by cases l <;> rfl⟩
  | dk l =>
    obtain ⟨a, kvs, rfl, q, e, r⟩ := h
    cases ht
    refine .inr (.inr ⟨kvs, q, ?_⟩)
    cases kvs <;> cases l <;> first | rfl | simp at e
  | _ => cases ht
theorem rdb_tru {d : D} {b : Bool} (h : truD d = some b) : rdb d = true := by cases d <;> first | rfl | cases h
theorem fOf_go {F : Dn} {Q : Bool → Hp → Prop} (h : tT K mg Wx (fun sl => fOf (F sl)) σ H Q) : tE K mg Wx F σ H (fun x H' => ∃ k, x = .bl k ∧ Q k H') := by
  obtain ⟨ws, B0, sl, w, e, h⟩ := h
  refine ⟨ws, B0, sl, w, e, (runAt.bind h).mono fun ws1 s1 d H1 l1 e1 h1 v hv => ?_⟩
  obtain ⟨b, q, h1⟩ := runAt.opt h1
  cases d <;> first | (cases q; done) | skip
  cases q
  cases hv
  exact ⟨_, rfl, runAt.here e1 h1⟩
end
section
variable {X : Cx} {Wx : WX} {a b c : Expr} {pos : Pos}
theorem mt_truth {f : Dn} (ha : PRm X Wx a f) (he : ∀ whole, isTrue a X.env whole = (do let v ← whole; standAt a.pos; holding [v] (truthy v)) := by intro _; rfl) : PTm X Wx a (fun sl => fTru (f sl)) := by
  refine (pt_truth ha he).mimp fun σ H Q ⟨ws, B0, sl, w, e, h⟩ => ?_
  refine ⟨ws, B0, sl, w, e, (runAt.bind h).mono fun ws1 s1 d H1 l1 e1 h1 v hv => ?_⟩
  obtain ⟨b, q2, h1⟩ := runAt.opt h1
  exact ⟨b, tru_of (e1.rv hv (rdb_tru q2)) q2, runAt.here e1 h1⟩
theorem mt_cmp {op : CmpOp} {r : R2} {o : D → D → Option D} {f g : Dn} (ho : OpR X (compareOp op) r) (hs : OpS X.K r o) (ht : OpT o) (ha : PRm X Wx a f) (hb : PRm X Wx b g) (hm : behindInMarks op b = false := by first | exact nomark _ | rfl) : PTm X Wx (.Compare a [op] [b] pos) (fun sl => fOf (fBin o (f sl) (g sl))) :=
  (pt_cmpR ho ha hb hm).mimp fun σ H Q h => fBin_go hs ht σ H _ (fOf_go h)
def fChain (o o' : D → D → Option D) (x y z : M D) : M D := x.bind fun a => y.bind fun b => (M.opt (o a b)).bind fun r => (M.opt (blD r)).bind fun t => if t = true then z.bind fun c => M.opt (o' b c) else M.pure (.bl false)
theorem fChain_go {K : PySem.W.Frag} {mg : Str → Option Value} {r r' : R2} {o o' : D → D → Option D} {f g h : Dn} (hs : OpS K r o) (ht : OpT o) (hs' : OpS K r' o') (ht' : OpT o') (σ : L2.St) (H : Hp) (Q : VK) (q : tE K mg Wx (fun sl => fChain o o' (f sl) (g sl) (h sl)) σ H Q) :
    tChain r r' (tR K mg Wx f) (tR K mg Wx g) (tR K mg Wx h) σ H Q := by
  obtain ⟨ws, B0, sl, w, e, q⟩ := q
  refine ⟨ws, B0, sl, w, e, (runAt.bind q).mono fun ws1 w1 x H1 l1 e1 h1 v hv => ?_⟩
  refine ⟨ws1, B0, sl, w1, e1, (runAt.bind h1).mono fun ws2 w2 y H2 l2 e2 h2 u hu => ?_⟩
  have hv2 := RV.le l2 hv
  cases q3 : o x y with
  | none => rw [q3] at h2; exact h2.elim
  | some z =>
    rw [q3] at h2
    simp only [opt_some, pure_bind] at h2
    obtain ⟨t1, t2⟩ := ht _ _ _ q3
    refine hs ws2 _ H2 v u x y z _ e2.bad (e2.rv hv2 t1) (e2.rv hu t2) q3 fun v' H' gr hd => ?_
    have h3 := runAt.le (gr.le ws2 (Own sl σ)) h2
    have e3 := e2.grow gr
    cases z with
    | bl k =>
      cases hd
      refine ⟨k, rfl, ?_⟩
      cases k with
      | true =>
        rw [if_pos rfl]
        refine ⟨ws2, B0, sl, w2, e3, (runAt.bind (show runAt K mg Wx ws2 B0 sl σ H' (M.bind (h sl) (fun c => M.opt (o' y c)) w2) _ from h3)).mono fun ws4 w4 c H4 l4 e4 h4 w' hw => ?_⟩
        have hu4 := RV.le ((gr.le ws2 (Own sl σ)).trans l4) hu
        obtain ⟨d4, p3, h4⟩ := runAt.opt h4
        obtain ⟨t3, t4⟩ := ht' _ _ _ p3
        exact hs' ws4 _ H4 u w' y c d4 Q e4.bad (e4.rv hu4 t3) (e4.rv hw t4) p3 fun v' H' g hd => runAt.grow g e4 h4 v' hd
      | false =>
        rw [if_neg Bool.false_ne_true]
        exact runAt.here (a := D.bl false) (w := w2) e3 h3 _ (.bl false)
    | _ => exact h3.elim
theorem m_chain {op op' : CmpOp} {r r' : R2} {o o' : D → D → Option D} {f g h : Dn} (ho : OpR X (compareOp op) r) (hs : OpS X.K r o) (ht : OpT o) (ho' : OpR X (compareOp op') r') (hs' : OpS X.K r' o') (ht' : OpT o') (ha : PRm X Wx a f) (hb : PRm X Wx b g) (hc : PRm X Wx c h)
    (hm : lastMarks [op, op'] [b, c] = false := by with_unfolding_all rfl) : PEm X Wx (.Compare a [op, op'] [b, c] pos) (fun sl => fChain o o' (f sl) (g sl) (h sl)) :=
  (pe_chain ho ho' ha hb hc hm).mimp fun σ H Q q => fChain_go hs ht hs' ht' σ H Q q
theorem mt_chain {op op' : CmpOp} {r r' : R2} {o o' : D → D → Option D} {f g h : Dn} (ho : OpR X (compareOp op) r) (hs : OpS X.K r o) (ht : OpT o) (ho' : OpR X (compareOp op') r') (hs' : OpS X.K r' o') (ht' : OpT o') (ha : PRm X Wx a f) (hb : PRm X Wx b g) (hc : PRm X Wx c h)
    (hm : lastMarks [op, op'] [b, c] = false := by with_unfolding_all rfl) : PTm X Wx (.Compare a [op, op'] [b, c] pos) (fun sl => fOf (fChain o o' (f sl) (g sl) (h sl))) :=
  (pt_chain ho ho' ha hb hc hm).mimp fun σ H Q q => fChain_go hs ht hs' ht' σ H _ (fOf_go q)

abbrev PWm (X : Cx) (Wx : WX) (e : Expr) (f : Bn) : Prop := PW X e (tT X.K X.mg Wx f)
theorem _root_.L2.PW.mimp {X : Cx} {e : Expr} {t t' : TT} (h : PW X e t) (f : ∀ σ H Q, t' σ H Q → t σ H Q) : PW X e t' := ⟨fun wh pins s σ H Q I q => h.run wh pins s σ H Q I (f _ _ _ q)⟩
variable {rest : List Expr}
theorem mw_and1 {f : Bn} (ha : PTm X Wx a f) : PWm X Wx (.BoolOp .And [a] pos) f := pw_and1 ha
theorem mw_or1 {f : Bn} (ha : PTm X Wx a f) : PWm X Wx (.BoolOp .Or [a] pos) f := pw_or1 ha
theorem mw_and {f g : Bn} (ha : PTm X Wx a f) (hb : PWm X Wx (.BoolOp .And (b :: rest) pos) g) : PWm X Wx (.BoolOp .And (a :: b :: rest) pos) (fun sl => fAndB (f sl) (g sl)) := by
  refine (pw_and ha hb).mimp fun σ H Q ⟨ws, B0, sl, w, e, h⟩ => ?_
  refine ⟨ws, B0, sl, w, e, (runAt.bind h).mono fun ws1 w1 b H1 l1 e1 h1 => ?_⟩
  cases b with
  | true => exact ⟨ws1, B0, sl, w1, e1, h1⟩
  | false => exact runAt.here e1 h1
theorem mw_or {f g : Bn} (ha : PTm X Wx a f) (hb : PWm X Wx (.BoolOp .Or (b :: rest) pos) g) : PWm X Wx (.BoolOp .Or (a :: b :: rest) pos) (fun sl => fOrB (f sl) (g sl)) := by
  refine (pw_or ha hb).mimp fun σ H Q ⟨ws, B0, sl, w, e, h⟩ => ?_
  refine ⟨ws, B0, sl, w, e, (runAt.bind h).mono fun ws1 w1 b H1 l1 e1 h1 => ?_⟩
  cases b with
  | true => exact runAt.here e1 h1
  | false => exact ⟨ws1, B0, sl, w1, e1, h1⟩
theorem mt_w {f : Bn} (h : PWm X Wx a f) : PTm X Wx a f := h.pt
theorem mt_not {f : Bn} (ha : PTm X Wx a f) : PTm X Wx (.UnaryOp .Not a pos) (fun sl => fNotB (f sl)) := by
  refine (pt_not ha).mimp fun σ H Q ⟨ws, B0, sl, w, e, h⟩ => ?_
  exact ⟨ws, B0, sl, w, e, (runAt.bind h).mono fun ws1 s1 b H1 l1 e1 h1 => runAt.here e1 h1⟩
theorem m_and {f g : Dn} (ha : PEm X Wx a f) (hb : PEm X Wx (.BoolOp .And (b :: rest) pos) g) : PEm X Wx (.BoolOp .And (a :: b :: rest) pos) (fun sl => fAnd (f sl) (g sl)) := by
  refine (pe_and ha hb).mimp fun σ H Q ⟨ws, B0, sl, w, e, h⟩ => ?_
  refine ⟨ws, B0, sl, w, e, (runAt.bind h).mono fun ws1 w1 x H1 l1 e1 h1 v hv => ?_⟩
  cases x with
  | bl k =>
    cases hv
    refine ⟨k, rfl, ?_⟩
    cases k with
    | true => exact ⟨ws1, B0, sl, w1, e1, h1⟩
    | false => exact runAt.here (a := D.bl false) (w := w1) e1 h1 _ (.bl false)
  | _ => exact h1.elim
theorem m_or {f g : Dn} (ha : PEm X Wx a f) (hb : PEm X Wx (.BoolOp .Or (b :: rest) pos) g) : PEm X Wx (.BoolOp .Or (a :: b :: rest) pos) (fun sl => fOr (f sl) (g sl)) := by
  refine (pe_or ha hb).mimp fun σ H Q ⟨ws, B0, sl, w, e, h⟩ => ?_
  refine ⟨ws, B0, sl, w, e, (runAt.bind h).mono fun ws1 w1 x H1 l1 e1 h1 v hv => ?_⟩
  cases x with
  | bl k =>
    cases hv
    refine ⟨k, rfl, ?_⟩
    cases k with
    | true => exact runAt.here (a := D.bl true) (w := w1) e1 h1 _ (.bl true)
    | false => exact ⟨ws1, B0, sl, w1, e1, h1⟩
  | _ => exact h1.elim
theorem m_one {op} {f : Dn} (ha : PEm X Wx a f) : PEm X Wx (.BoolOp op [a] pos) f := pe_one ha
theorem m_not {f : Dn} (ha : PRm X Wx a f) : PEm X Wx (.UnaryOp .Not a pos) (fun sl => fNot (f sl)) := by
  refine (pe_notT ha).mimp fun σ H Q ⟨ws, B0, sl, w, e, h⟩ => ?_
  refine ⟨ws, B0, sl, w, e, (runAt.bind h).mono fun ws1 s1 d H1 l1 e1 h1 v hv => ?_⟩
  cases q3 : truD d with
  | none => rw [q3] at h1; exact h1.elim
  | some b =>
    rw [q3] at h1
    exact ⟨b, tru_of (e1.rv hv (rdb_tru q3)) q3, runAt.here e1 h1 _ (.bl _)⟩
theorem m_if {cf : Bn} {f g : Dn} (hc : PTm X Wx c cf) (ha : PEm X Wx a f) (hb : PEm X Wx b g) : PEm X Wx (.IfExp c a b pos) (fun sl => fIf (cf sl) (f sl) (g sl)) := by
  refine (pe_ifExp hc ha hb).mimp fun σ H Q ⟨ws, B0, sl, w, e, h⟩ => ?_
  refine ⟨ws, B0, sl, w, e, (runAt.bind h).mono fun ws1 w1 b H1 l1 e1 h1 => ?_⟩
  cases b with
  | true => exact ⟨ws1, B0, sl, w1, e1, h1⟩
  | false => exact ⟨ws1, B0, sl, w1, e1, h1⟩
theorem r_if {cf : Bn} {f g : Dn} (hc : PTm X Wx c cf) (ha : PRm X Wx a f) (hb : PRm X Wx b g) : PRm X Wx (.IfExp c a b pos) (fun sl => fIf (cf sl) (f sl) (g sl)) := by
  refine (pe_ifExp hc ha hb).mimp fun σ H Q ⟨ws, B0, sl, w, e, h⟩ => ?_
  refine ⟨ws, B0, sl, w, e, (runAt.bind h).mono fun ws1 w1 b H1 l1 e1 h1 => ?_⟩
  cases b with
  | true => exact ⟨ws1, B0, sl, w1, e1, h1⟩
  | false => exact ⟨ws1, B0, sl, w1, e1, h1⟩
/-- - x -/
def negD : D → Option D
  | .int i => some (.int (-i))
  | _ => none
def fNeg (x : M D) : M D := x.bind fun d => M.opt (negD d)
theorem m_neg {f : Dn} (ha : PEm X Wx a f) : PEm X Wx (.UnaryOp .USub a pos) (fun sl => fNeg (f sl)) := by
  refine (pe_un un_neg ha).mimp fun σ H Q ⟨ws, B0, sl, w, e, h⟩ => ?_
  refine ⟨ws, B0, sl, w, e, (runAt.bind h).mono fun ws1 s1 d H1 l1 e1 h1 v hv => ?_⟩
  obtain ⟨r, q, h1⟩ := runAt.opt h1
  cases d <;> first | (cases q; done) | skip
  cases q
  cases hv
  exact ⟨_, rfl, runAt.here e1 h1 _ (.int _)⟩

/-! ### argument lists, displays -/
def fNil : M (List D) := M.pure []
def fCons (x : M D) (r : M (List D)) : M (List D) := x.bind fun a => r.bind fun l => M.pure (a :: l)
variable {e : Expr} {es : List Expr}
theorem ma_nil : PAm X Wx [] (fun _ => fNil) := pa_nil.mimp fun σ H Q ⟨ws, B0, sl, w, e, h⟩ => runAt.here e h [] .nil
theorem ma_cons {f : Dn} {g : An} (ha : PEm X Wx e f) (hr : PAm X Wx es g) (hs : starEach (e :: es) X.env = (false, eval e X.env) :: starEach es X.env := by rfl) : PAm X Wx (e :: es) (fun sl => fCons (f sl) (g sl)) := by
  refine (pa_cons ha hr hs).mimp fun σ H Q ⟨ws, B0, sl, w, e, h⟩ => ?_
  refine ⟨ws, B0, sl, w, e, (runAt.bind h).mono fun ws1 w1 x H1 l1 e1 h1 v hv => ?_⟩
  refine ⟨ws1, B0, sl, w1, e1, (runAt.bind h1).mono fun ws2 w2 xs H2 l2 e2 h2 vs hvs => ?_⟩
  exact runAt.here e2 h2 _ (.cons (hv.le l2) hvs)
theorem mr_nil : PArm X Wx [] (fun _ => fNil) := pa_nil.mimp fun σ H Q ⟨ws, B0, sl, w, e, h⟩ => runAt.here e h [] .nil
theorem mr_cons {f : Dn} {g : An} (ha : PRm X Wx e f) (hr : PArm X Wx es g) (hs : starEach (e :: es) X.env = (false, eval e X.env) :: starEach es X.env := by rfl) : PArm X Wx (e :: es) (fun sl => fCons (f sl) (g sl)) := by
  refine (pa_cons ha hr hs).mimp fun σ H Q ⟨ws, B0, sl, w, e, h⟩ => ?_
  refine ⟨ws, B0, sl, w, e, (runAt.bind h).mono fun ws1 w1 x H1 l1 e1 h1 v hv => ?_⟩
  refine ⟨ws1, B0, sl, w1, e1, (runAt.bind h1).mono fun ws2 w2 xs H2 l2 e2 h2 vs hvs => ?_⟩
  exact runAt.here e2 h2 _ (.cons (RV.le l2 hv) hvs)
def fTup (g : M (List D)) : M D := g.bind fun l => M.pure (.tup l)
def fLst (g : M (List D)) : M D := g.bind fun l => M.pure (.lst l)
/-- so many values are told -/
def Cnt (n : Nat) (g : An) : Prop := ∀ sl w l w', g sl w = .ok l w' → l.length = n
theorem cnt_nil : Cnt 0 (fun _ => fNil) := fun sl w l w' h => by cases h; rfl
theorem cnt_cons {n : Nat} {f : Dn} {g : An} (h : Cnt n g) : Cnt (n + 1) (fun sl => fCons (f sl) (g sl)) := fun sl w l w' q => by
  have q : M.bind (f sl) (fun a => (g sl).bind fun l => M.pure (a :: l)) w = .ok l w' := q
  unfold M.bind at q
  cases q1 : f sl w with
  | bad => rw [q1] at q; cases q
  | ex c w1 => rw [q1] at q; cases q
  | ok a w1 =>
    rw [q1] at q
    simp only at q
    cases q2 : g sl w1 with
    | bad => rw [q2] at q; cases q
    | ex c w1 => rw [q2] at q; cases q
    | ok r w2 =>
      rw [q2] at q
      cases q
      rw [List.length_cons, h _ _ _ _ q2]
theorem m_tup {n : Nat} {g : An} {x1} (h : PAm X Wx es g) (hn : Cnt n g) (hz : n ≤ 1000 := by decide) : PEm X Wx (.Tuple es x1 pos) (fun sl => fTup (g sl)) := by
  refine (pe_tup h).mimp fun σ H Q ⟨ws, B0, sl, w, e, h⟩ => ?_
  refine ⟨ws, B0, sl, w, e, ?_⟩
  have h1 := runAt.bind h
  cases q : g sl w with
  | bad => rw [q] at h1; exact h1
  | ex c w1 => rw [q] at h1; exact h1
  | ok ds w1 =>
    rw [q] at h1
    intro ws1 H1 l1 e1 vs hvs
    have h2 := h1 ws1 H1 l1 e1
    have hl := hvs.length
    have hz' : ds.length ≤ sizeLine := by rw [hn _ _ _ _ q]; exact Nat.le_trans hz (by decide)
    exact ⟨by omega, fun p hp => runAt.grow (Grow.new hp) e1 h2 _ (tp_new e1.bad hp hz' hvs)⟩
theorem m_lst {n : Nat} {g : An} (h : PAm X Wx es g) (hn : Cnt n g) (hz : n ≤ 1000 := by decide) : PEm X Wx (.List es pos) (fun sl => fLst (g sl)) := by
  refine (pe_lst h).mimp fun σ H Q ⟨ws, B0, sl, w, e, h⟩ => ?_
  refine ⟨ws, B0, sl, w, e, ?_⟩
  have h1 := runAt.bind h
  cases q : g sl w with
  | bad => rw [q] at h1; exact h1
  | ex c w1 => rw [q] at h1; exact h1
  | ok ds w1 =>
    rw [q] at h1
    intro ws1 H1 l1 e1 vs hvs
    have h2 := h1 ws1 H1 l1 e1
    have hl := hvs.length
    have hz' : ds.length ≤ sizeLine := by rw [hn _ _ _ _ q]; exact Nat.le_trans hz (by decide)
    exact ⟨by omega, fun p hp => runAt.grow (Grow.new hp) e1 h2 _ (ls_new e1.bad hp hz' hvs)⟩
end
end Pm
namespace Pm
open PySem L2

/-! ### o[i] -/
def ixD : D → D → Option D
  | .tup l, .int i => atI l i
  | .lst l, .int i => atI l i
  | .scr l, .int i => (atI l i).map .int
  | .str z, .int i => if z.length ≤ sizeLine then (atI z.cps.toList i).map fun c => .str ⟨#[c]⟩ else none
  | _, _ => none
section
variable {K : PySem.W.Frag} {ws : Wa} {B : Addr → Prop} {H : Hp}
theorem atI_DRs {vs : List V} {ds : List D} {i : Int} {d : D} (r : DRs K ws B H vs ds) (h : atI ds i = some d) : ∃ v, atI vs i = some v ∧ DR K ws B H v d := by
  unfold atI at h ⊢
  rw [r.length]
  cases q : ixN ds.length i with
  | none => rw [q] at h; cases h
  | some j =>
    rw [q] at h
    obtain ⟨v, h1, h2⟩ := r.get h
    exact ⟨v, h1, h2⟩
theorem atI_map {α β : Type} (f : α → β) (l : List α) (i : Int) : atI (l.map f) i = (atI l i).map f := by
  unfold atI
  rw [List.length_map]
  cases ixN l.length i with
  | none => rfl
  | some j => simp
theorem so_ix : OpS K (rIx K) ixD := by
  intro ws B H x y dx dy d Q hb hx hy ho q
  cases dx <;> cases dy <;> first
    | (simp [ixD] at ho; done)
    | skip
  · cases hx; cases hy
    simp only [ixD] at ho
    split at ho
    · rename_i z i hz
      cases e : atI z.cps.toList i with
      | none => rw [e] at ho; cases ho
      | some c =>
        rw [e] at ho
        cases ho
        exact .inr (.inr ⟨z, i, c, rfl, rfl, hz, e, q _ _ (Grow.refl H) (.str _)⟩)
    · cases ho
  · obtain ⟨zx, a, vs, rfl, t, r⟩ := hx
    cases hy
    obtain ⟨v, h1, h2⟩ := atI_DRs r ho
    exact .inr (.inl ⟨a, vs, _, v, rfl, rfl, t.sq, h1, q _ _ (Grow.refl H) h2⟩)
  · obtain ⟨zx, a, vs, rfl, t, r⟩ := hx
    cases hy
    obtain ⟨v, h1, h2⟩ := atI_DRs r ho
    exact .inl ⟨a, vs, _, v, rfl, rfl, .inl (.inl t), h1, q _ _ (Grow.refl H) h2⟩
  · obtain ⟨a, rfl, t⟩ := hx
    cases hy
    rename_i l i
    simp only [ixD] at ho
    cases e : atI l i with
    | none => rw [e] at ho; cases ho
    | some c =>
      rw [e] at ho
      cases ho
      exact .inl ⟨a, _, i, .int c, rfl, rfl, t, by rw [atI_map, e]; rfl, q _ _ (Grow.refl H) (.int _)⟩
end
theorem ot_ix : OpT ixD := fun x y d h => by cases x <;> cases y <;> first | exact ⟨rfl, rfl⟩ | cases h
section
variable {X : Cx} {Wx : WX} {a b e : Expr} {pos : Pos}
theorem m_ix {f g : Dn} (ha : PRm X Wx a f) (hb : PRm X Wx b g) (hs : PlainIx b := by exact fun _ _ => rfl) : PEm X Wx (.Subscript a b pos) (fun sl => fBin ixD (f sl) (g sl)) :=
  (pe_ix ix_seq ha hb hs).mimp fun σ H Q h => fBin_go so_ix ot_ix σ H Q h

/-! ### o[i:j] -/
def cutL {α : Type} (xs : List α) (lo hi : Option Int) : List α := (xs.drop (HT.sIx xs.length 0 lo)).take (HT.sIx xs.length xs.length hi - HT.sIx xs.length 0 lo)
def slD : D → Option Int → Option Int → Option D
  | .tup l, lo, hi => some (.tup (cutL l lo hi))
  | .lst l, lo, hi => some (.lst (cutL l lo hi))
  | .str z, lo, hi => if z.length ≤ sizeLine then some (.str (cutS z lo hi)) else none
  | _, _, _ => none
abbrev On := Ls → M (Option Int)
def intD : D → Option Int
  | .int i => some i
  | _ => none
def fONo : M (Option Int) := M.pure none
def fOSo (x : M D) : M (Option Int) := x.bind fun d => (M.opt (intD d)).bind fun i => M.pure (some i)
def tOm (K : PySem.W.Frag) (mg : Str → Option Value) (Wx : WX) (f : On) : TO := fun σ H Q => ∃ ws B0 sl w, Env K ws B0 sl w σ H ∧ runAt K mg Wx ws B0 sl σ H (f sl w) fun _ _ o H' => Q o H'
abbrev POm (X : Cx) (Wx : WX) (e : Option Expr) (f : On) : Prop := PO X e (tOm X.K X.mg Wx f)
theorem _root_.L2.PO.mimp {X : Cx} {e : Option Expr} {t t' : TO} (h : PO X e t) (f : ∀ σ H Q, t' σ H Q → t σ H Q) : PO X e t' := ⟨fun pins s σ H Q I q => h.run pins s σ H Q I (f _ _ _ q)⟩
theorem mo_none : POm X Wx none (fun _ => fONo) := po_none.mimp fun σ H Q ⟨ws, B0, sl, w, e, h⟩ => runAt.here e h
theorem mo_some {f : Dn} (h : PEm X Wx e f) : POm X Wx (some e) (fun sl => fOSo (f sl)) := by
  refine (po_some h).mimp fun σ H Q ⟨ws, B0, sl, w, e, h⟩ => ?_
  refine ⟨ws, B0, sl, w, e, (runAt.bind h).mono fun ws1 s1 d H1 l1 e1 h1 v hv => ?_⟩
  cases d with
  | int i =>
    cases hv
    exact ⟨i, rfl, runAt.here e1 h1⟩
  | _ => exact h1.elim
def fSl (x : M D) (lo hi : M (Option Int)) : M D := x.bind fun a => lo.bind fun i => hi.bind fun j => M.opt (slD a i j)
def rSlM (K : PySem.W.Frag) : V → Option Int → Option Int → Hp → VK → Prop := fun x lo hi H Q => rSlA K x lo hi H Q ∨ (rSlL K x lo hi H Q ∨ rSlS x lo hi H Q)
theorem sl_M : SlR X (rSlM X.K) := sl_tupA.or (sl_list.or sl_str)
theorem cutL_le {α : Type} {xs : List α} {lo hi : Option Int} {n : Nat} (h : xs.length ≤ n) : (cutL xs lo hi).length ≤ n := by
  unfold cutL
  rw [List.length_take, List.length_drop]
  omega
theorem rdb_sl {x d : D} {lo hi : Option Int} (h : slD x lo hi = some d) : rdb x = true := by cases x <;> first | rfl | cases h
theorem so_sl {K : PySem.W.Frag} {ws : Wa} {B : Addr → Prop} {H : Hp} {x : V} {dx d : D} {lo hi : Option Int} {Q : VK} (hb : ∀ a, B a → H a ≠ none) (hx : DW K ws B H x dx) (ho : slD dx lo hi = some d) (q : ∀ v H', Grow H H' → DR K ws B H' v d → Q v H') : rSlM K x lo hi H Q := by
  cases dx with
  | tup l =>
    obtain ⟨zx, a, vs, rfl, t, r⟩ := hx
    cases ho
    have hl := r.length
    refine .inl ⟨a, vs, rfl, t.sq, fun z => ?_, fun _ p hp => q _ _ (Grow.new hp) (tp_new hb hp (cutL_le zx) ?_)⟩
    · have e : cutL l lo hi = l := by
        unfold cutL
        rw [← hl, z.1, z.2, List.drop_zero, Nat.sub_zero, hl, List.take_length]
      rw [e] at q
      exact q _ _ (Grow.refl H) (.tup zx t r)
    · unfold cutV cutL
      rw [hl]
      exact (r.drop _).take _
  | lst l =>
    obtain ⟨zx, a, vs, rfl, t, r⟩ := hx
    cases ho
    have hl := r.length
    refine .inr (.inl ⟨a, vs, rfl, .inl (.inl t), fun p hp => q _ _ (Grow.new hp) (ls_new hb hp (cutL_le zx) ?_)⟩)
    unfold cutV cutL
    rw [hl]
    exact (r.drop _).take _
  | str z =>
    cases hx
    simp only [slD] at ho
    split at ho
    · rename_i hz
      cases ho
      exact .inr (.inr ⟨z, rfl, hz, q _ _ (Grow.refl H) (.str _)⟩)
    · cases ho
  | _ => cases ho
theorem m_sl {lo hi : Option Expr} {f : Dn} {gl gh : On} {p2 : Pos} (he : PRm X Wx e f) (hl : POm X Wx lo gl) (hh : POm X Wx hi gh) : PEm X Wx (.Subscript e (.Slice lo hi none p2) pos) (fun sl => fSl (f sl) (gl sl) (gh sl)) := by
  refine (pe_slice sl_M he hl hh).mimp fun σ H Q ⟨ws, B0, sl, w, e, h⟩ => ?_
  refine ⟨ws, B0, sl, w, e, (runAt.bind h).mono fun ws1 w1 x H1 l1 e1 h1 v hv => ?_⟩
  refine ⟨ws1, B0, sl, w1, e1, (runAt.bind h1).mono fun ws2 w2 i H2 l2 e2 h2 => ?_⟩
  refine ⟨ws2, B0, sl, w2, e2, (runAt.bind h2).mono fun ws3 w3 j H3 l3 e3 h3 => ?_⟩
  obtain ⟨d, q2, h3⟩ := runAt.opt h3
  exact so_sl e3.bad (e3.rv (RV.le (l2.trans l3) hv) (rdb_sl q2)) q2 fun v' H' g hd => runAt.grow g e3 h3 v' hd

/-! ### built-ins by values -/
inductive DWs (K : PySem.W.Frag) (ws : Wa) (B : Addr → Prop) (H : Hp) : List V → List D → Prop
  | nil : DWs K ws B H [] []
  | cons {v : V} {vs : List V} {d : D} {ds : List D} : DW K ws B H v d → DWs K ws B H vs ds → DWs K ws B H (v :: vs) (d :: ds)
theorem Env.rvs {K : PySem.W.Frag} {ws : Wa} {B0 : Addr → Prop} {sl : Ls} {w : W} {σ : L2.St} {H : Hp} (e : Env K ws B0 sl w σ H) : ∀ {vs : List V} {ds : List D}, RVs K ws B0 sl σ H vs ds → ds.all rdb = true → DWs K ws (Bad ws B0 sl σ) H vs ds
  | _, _, .nil, h => .nil
  | _, _, .cons h1 hr, h => by
    simp only [List.all_cons, Bool.and_eq_true] at h
    exact .cons (e.rv h1 h.1) (Env.rvs e hr h.2)
def CallT (fn : List D → Option D) : Prop := ∀ ds d, fn ds = some d → ds.all rdb = true
/-- a built-in function told by one on data -/
def CallS (K : PySem.W.Frag) (r : List V → Hp → VK → Prop) (fn : List D → Option D) : Prop := ∀ (ws : Wa) (B : Addr → Prop) (H : Hp) (xs : List V) (ds : List D) (d : D) (Q : VK), (∀ a, B a → H a ≠ none) → DWs K ws B H xs ds → fn ds = some d →
  (∀ v H', Grow H H' → DR K ws B H' v d → Q v H') → r xs H Q
def fCB (fn : List D → Option D) (g : M (List D)) : M D := g.bind fun l => M.opt (fn l)
theorem fCB_go {K : PySem.W.Frag} {mg : Str → Option Value} {r : List V → Hp → VK → Prop} {fn : List D → Option D} {g : An} (hs : CallS K r fn) (ht : CallT fn) (σ : L2.St) (H : Hp) (Q : VK) (h : tE K mg Wx (fun sl => fCB fn (g sl)) σ H Q) : tCB r (tAr K mg Wx g) σ H Q := by
  obtain ⟨ws, B0, sl, w, e, h⟩ := h
  refine ⟨ws, B0, sl, w, e, (runAt.bind h).mono fun ws1 w1 ds H1 l1 e1 h1 vs hv => ?_⟩
  obtain ⟨d, q2, h1⟩ := runAt.opt h1
  exact hs ws1 _ H1 vs ds d Q e1.bad (e1.rvs hv (ht _ _ q2)) q2 fun v' H' g hd => runAt.grow g e1 h1 v' hd
variable {es : List Expr} {x : Str} {p : Pos}
theorem m_callB {id : String} {r : List V → Hp → VK → Prop} {fn : List D → Option D} {g : An} (hc : CallR X (.builtin id) r) (hs : CallS X.K r fn) (ht : CallT fn) (hg : Gl X x) (hm : X.mg x = none) (hv : bootBuiltins x = some (.builtin id)) (ha : PArm X Wx (e :: es) g) (hn : x ≠ "__name__" := by decide) (hdb : (x == ("__debug__" : Str)) = false := by decide)
    (he : starEach (e :: es) X.env = (false, eval e X.env) :: starEach es X.env := by rfl) (hpl : (backTo pos (starEach es X.env)).any (·.1) = false := by rfl) : PEm X Wx (.Call (.Name x p) (e :: es) [] pos) (fun sl => fCB fn (g sl)) :=
  (pe_callB hc hg hm hv ha hn hdb he hpl).mimp fun σ H Q h => fCB_go hs ht σ H Q h
theorem m_callTy {T : String} {r : List V → Hp → VK → Prop} {fn : List D → Option D} {g : An} (hc : CallR X (.type T) r) (hs : CallS X.K r fn) (ht : CallT fn) (hg : Gl X x) (hm : X.mg x = none) (hv : bootBuiltins x = some (.type T)) (ha : PArm X Wx (e :: es) g) (hn : x ≠ "__name__" := by decide) (hdb : (x == ("__debug__" : Str)) = false := by decide)
    (he : starEach (e :: es) X.env = (false, eval e X.env) :: starEach es X.env := by rfl) (hpl : (backTo pos (starEach es X.env)).any (·.1) = false := by rfl) : PEm X Wx (.Call (.Name x p) (e :: es) [] pos) (fun sl => fCB fn (g sl)) :=
  (pe_callTy hc hg hm hv ha hn hdb he hpl).mimp fun σ H Q h => fCB_go hs ht σ H Q h
end

def intsOf : List D → Option (List Int)
  | [] => some []
  | .int i :: r => (intsOf r).map (i :: ·)
  | _ => none
@[simp] theorem intsOf_map : ∀ ns : List Int, intsOf (ns.map D.int) = some ns
  | [] => rfl
  | n :: r => by rw [List.map_cons, intsOf, intsOf_map r]; rfl
theorem of_intsOf : ∀ {ds : List D} {ns : List Int}, intsOf ds = some ns → ds = ns.map D.int
  | [], ns, h => by cases h; rfl
  | .int i :: r, ns, h => by
    rw [intsOf] at h
    cases q : intsOf r with
    | none => rw [q] at h; cases h
    | some m => rw [q] at h; cases h; rw [of_intsOf q]; rfl
  | .non :: _, _, h => by cases h
  | .bl _ :: _, _, h => by cases h
  | .str _ :: _, _, h => by cases h
  | .tup _ :: _, _, h => by cases h
  | .lst _ :: _, _, h => by cases h
  | .scr _ :: _, _, h => by cases h
  | .dk _ :: _, _, h => by cases h
  | .dt _ :: _, _, h => by cases h
  | .town :: _, _, h => by cases h
  | .fn _ _ _ :: _, _, h => by cases h
  | .obj _ :: _, _, h => by cases h
def blsOf : List D → Option (List Bool)
  | [] => some []
  | .bl i :: r => (blsOf r).map (i :: ·)
  | _ => none
@[simp] theorem blsOf_map : ∀ ns : List Bool, blsOf (ns.map D.bl) = some ns
  | [] => rfl
  | n :: r => by rw [List.map_cons, blsOf, blsOf_map r]; rfl
theorem of_blsOf : ∀ {ds : List D} {ns : List Bool}, blsOf ds = some ns → ds = ns.map D.bl
  | [], ns, h => by cases h; rfl
  | .bl i :: r, ns, h => by
    rw [blsOf] at h
    cases q : blsOf r with
    | none => rw [q] at h; cases h
    | some m => rw [q] at h; cases h; rw [of_blsOf q]; rfl
  | .non :: _, _, h => by cases h
  | .int _ :: _, _, h => by cases h
  | .str _ :: _, _, h => by cases h
  | .tup _ :: _, _, h => by cases h
  | .lst _ :: _, _, h => by cases h
  | .scr _ :: _, _, h => by cases h
  | .dk _ :: _, _, h => by cases h
  | .dt _ :: _, _, h => by cases h
  | .town :: _, _, h => by cases h
  | .fn _ _ _ :: _, _, h => by cases h
  | .obj _ :: _, _, h => by cases h

theorem ct_one {fn : D → Option D} (h : ∀ x d, fn x = some d → rdb x = true) : CallT (fun l => match l with | [x] => fn x | _ => none) := fun ds d q => by
  match ds, q with
  | [x], q => simp [h x d q]
/-! ### len -/
def lenF : List D → Option D
  | [.str z] => if z.length ≤ sizeLine then some (.int z.length) else none
  | [.tup l] => some (.int l.length)
  | [.lst l] => some (.int l.length)
  | [.scr l] => some (.int l.length)
  | _ => none
section
variable {K : PySem.W.Frag} {ws : Wa} {B : Addr → Prop} {H : Hp}
theorem one_of {d : D} {xs : List V} (h : DWs K ws B H xs [d]) : ∃ v, xs = [v] ∧ DW K ws B H v d := by
  cases h with
  | cons h1 h2 => cases h2; exact ⟨_, rfl, h1⟩
theorem two_of {d e : D} {xs : List V} (h : DWs K ws B H xs [d, e]) : ∃ v u, xs = [v, u] ∧ DW K ws B H v d ∧ DW K ws B H u e := by
  cases h with
  | cons h1 h2 => obtain ⟨u, rfl, h3⟩ := one_of h2; exact ⟨_, u, rfl, h1, h3⟩
theorem three_of {d e f : D} {xs : List V} (h : DWs K ws B H xs [d, e, f]) : ∃ v u w, xs = [v, u, w] ∧ DW K ws B H v d ∧ DW K ws B H u e ∧ DW K ws B H w f := by
  cases h with
  | cons h1 h2 => obtain ⟨u, w, rfl, h3⟩ := two_of h2; exact ⟨_, u, w, rfl, h1, h3⟩
theorem cs_len : CallS K (fun xs H Q => ∃ x n, xs = [x] ∧ LenV K x H n ∧ Q (.int n) H) lenF := by
  intro ws B H xs ds d Q hb hx ho q
  unfold lenF at ho
  split at ho
  · rename_i z
    obtain ⟨v, rfl, hv⟩ := one_of hx
    split at ho
    · rename_i hz; cases ho; cases hv; exact ⟨_, _, rfl, ⟨hz, rfl⟩, q _ _ (Grow.refl H) (.int _)⟩
    · cases ho
  · obtain ⟨v, rfl, zx, a, vs, rfl, t, r⟩ := one_of hx
    cases ho
    exact ⟨_, vs.length, rfl, .inr ⟨vs, t.sq, rfl⟩, by rw [r.length]; exact q _ _ (Grow.refl H) (.int _)⟩
  · obtain ⟨v, rfl, zx, a, vs, rfl, t, r⟩ := one_of hx
    cases ho
    exact ⟨_, vs.length, rfl, .inl ⟨vs, .inl (.inl t), rfl⟩, by rw [r.length]; exact q _ _ (Grow.refl H) (.int _)⟩
  · rename_i l
    obtain ⟨v, rfl, a, rfl, t⟩ := one_of hx
    cases ho
    exact ⟨_, l.length, rfl, .inl ⟨_, t, by rw [List.length_map]⟩, q _ _ (Grow.refl H) (.int _)⟩
  · cases ho

/-! ### abs, int -/
def absF : List D → Option D
  | [.int i] => some (.int (if i < 0 then -i else i))
  | _ => none
theorem cs_abs : CallS K (fun xs H Q => ∃ i, xs = [.int i] ∧ Q (.int (if i < 0 then -i else i)) H) absF := by
  intro ws B H xs ds d Q hb hx ho q
  unfold absF at ho
  split at ho
  · obtain ⟨v, rfl, hv⟩ := one_of hx
    cases ho; cases hv
    exact ⟨_, rfl, q _ _ (Grow.refl H) (.int _)⟩
  · cases ho
def intF : List D → Option D
  | [.int i] => some (.int i)
  | [.bl b] => some (.int (if b then 1 else 0))
  | _ => none
theorem cs_int : CallS K (fun xs H Q => (∃ i, xs = [.int i] ∧ Q (.int i) H) ∨ ∃ k, xs = [.bl k] ∧ Q (.int (if k then 1 else 0)) H) intF := by
  intro ws B H xs ds d Q hb hx ho q
  unfold intF at ho
  split at ho
  · obtain ⟨v, rfl, hv⟩ := one_of hx
    cases ho; cases hv
    exact .inl ⟨_, rfl, q _ _ (Grow.refl H) (.int _)⟩
  · obtain ⟨v, rfl, hv⟩ := one_of hx
    cases ho; cases hv
    exact .inr ⟨_, rfl, q _ _ (Grow.refl H) (.int _)⟩
  · cases ho

/-! ### sum, all, any of a list -/
def sumF : List D → Option D
  | [.lst l] => (intsOf l).map fun ns => .int ns.sum
  | _ => none
theorem cs_sum : CallS K (rSum K) sumF := by
  intro ws B H xs ds d Q hb hx ho q
  unfold sumF at ho
  split at ho
  · rename_i l
    obtain ⟨v, rfl, zx, a, vs, rfl, t, r⟩ := one_of hx
    cases e : intsOf l with
    | none => rw [e] at ho; cases ho
    | some ns =>
      rw [e] at ho; cases ho
      rw [of_intsOf e] at r
      have ev := r.of_ints
      subst ev
      exact ⟨a, ns, rfl, .inl (.inl t), q _ _ (Grow.refl H) (.int _)⟩
  · cases ho
def allF : List D → Option D
  | [.lst l] => (blsOf l).map fun ns => .bl (ns.all id)
  | _ => none
theorem cs_all : CallS K (rAll K) allF := by
  intro ws B H xs ds d Q hb hx ho q
  unfold allF at ho
  split at ho
  · rename_i l
    obtain ⟨v, rfl, zx, a, vs, rfl, t, r⟩ := one_of hx
    cases e : blsOf l with
    | none => rw [e] at ho; cases ho
    | some ns =>
      rw [e] at ho; cases ho
      rw [of_blsOf e] at r
      have ev := r.of_bls
      subst ev
      exact ⟨a, ns, rfl, .inl (.inl t), q _ _ (Grow.refl H) (.bl _)⟩
  · cases ho
def anyF : List D → Option D
  | [.lst l] => (blsOf l).map fun ns => .bl (ns.any id)
  | _ => none
theorem cs_any : CallS K (rAny K) anyF := by
  intro ws B H xs ds d Q hb hx ho q
  unfold anyF at ho
  split at ho
  · rename_i l
    obtain ⟨v, rfl, zx, a, vs, rfl, t, r⟩ := one_of hx
    cases e : blsOf l with
    | none => rw [e] at ho; cases ho
    | some ns =>
      rw [e] at ho; cases ho
      rw [of_blsOf e] at r
      have ev := r.of_bls
      subst ev
      exact ⟨a, ns, rfl, .inl (.inl t), q _ _ (Grow.refl H) (.bl _)⟩
  · cases ho

/-! ### tuple(x), list(x) -/
def tupF : List D → Option D
  | [.lst l] => some (.tup l)
  | [.tup l] => some (.tup l)
  | _ => none
theorem cs_tup : CallS K (fun xs H Q => ∃ p ys, xs = [.ref p] ∧ ((SqL K H p ys ∧ ∀ l, H l = none → Q (.ref l) (upd H l (.tup ys))) ∨ (SqT K H p ys ∧ Q (.ref p) H))) tupF := by
  intro ws B H xs ds d Q hb hx ho q
  unfold tupF at ho
  split at ho
  · obtain ⟨v, rfl, zx, a, vs, rfl, t, r⟩ := one_of hx
    cases ho
    exact ⟨a, vs, rfl, .inl ⟨.inl (.inl t), fun p hp => q _ _ (Grow.new hp) (tp_new hb hp zx r)⟩⟩
  · obtain ⟨v, rfl, zx, a, vs, rfl, t, r⟩ := one_of hx
    cases ho
    exact ⟨a, vs, rfl, .inr ⟨t.sq, q _ _ (Grow.refl H) (.tup zx t r)⟩⟩
  · cases ho
def lstF : List D → Option D
  | [.lst l] => some (.lst l)
  | [.tup l] => some (.lst l)
  | _ => none
theorem cs_lst : CallS K (fun xs H Q => ∃ p ys, xs = [.ref p] ∧ (SqL K H p ys ∨ SqT K H p ys) ∧ ∀ l, H l = none → Q (.ref l) (upd H l (.lst ys))) lstF := by
  intro ws B H xs ds d Q hb hx ho q
  unfold lstF at ho
  split at ho
  · obtain ⟨v, rfl, zx, a, vs, rfl, t, r⟩ := one_of hx
    cases ho
    exact ⟨a, vs, rfl, .inl (.inl (.inl t)), fun p hp => q _ _ (Grow.new hp) (ls_new hb hp zx r)⟩
  · obtain ⟨v, rfl, zx, a, vs, rfl, t, r⟩ := one_of hx
    cases ho
    exact ⟨a, vs, rfl, .inr t.sq, fun p hp => q _ _ (Grow.new hp) (ls_new hb hp zx r)⟩
  · cases ho

/-! ### max, min -/
def bigF (f : Int → Int → Int) : List D → Option D
  | [.int i, .int j] => some (.int (f i j))
  | [.int i, .int j, .int k] => some (.int (f (f i j) k))
  | [.lst l] => (intsOf l).bind fun ns => match ns with | [] => none | n :: r => some (.int (r.foldl f n))
  | [.tup l] => (intsOf l).bind fun ns => match ns with | [] => none | n :: r => some (.int (r.foldl f n))
  | _ => none
def maxF : List D → Option D := bigF max
def minF : List D → Option D := bigF min
def rBig (K : PySem.W.Frag) (f : Int → Int → Int) : List V → Hp → VK → Prop := fun xs H Q =>
  (∃ i j, xs = [.int i, .int j] ∧ Q (.int (f i j)) H) ∨ (∃ i j k, xs = [.int i, .int j, .int k] ∧ Q (.int (f (f i j) k)) H) ∨
  (∃ (a : Addr) (n : Int) (r : List Int), xs = [.ref a] ∧ (SqL K H a ((n :: r).map V.int) ∨ SqT K H a ((n :: r).map V.int)) ∧ Q (.int (r.foldl f n)) H)
theorem cs_big {f : Int → Int → Int} : CallS K (rBig K f) (bigF f) := by
  intro ws B H xs ds d Q hb hx ho q
  unfold bigF at ho
  split at ho
  · obtain ⟨v, u, rfl, hv, hu⟩ := two_of hx
    cases ho; cases hv; cases hu
    exact .inl ⟨_, _, rfl, q _ _ (Grow.refl H) (.int _)⟩
  · obtain ⟨v, u, w, rfl, hv, hu, hw⟩ := three_of hx
    cases ho; cases hv; cases hu; cases hw
    exact .inr (.inl ⟨_, _, _, rfl, q _ _ (Grow.refl H) (.int _)⟩)
  · rename_i l
    obtain ⟨v, rfl, zx, a, vs, rfl, t, r⟩ := one_of hx
    cases e : intsOf l with
    | none => rw [e] at ho; cases ho
    | some ns =>
      rw [e] at ho
      cases ns with
      | nil => cases ho
      | cons n ns =>
        cases ho
        rw [of_intsOf e] at r
        have ev := r.of_ints
        subst ev
        exact .inr (.inr ⟨a, n, ns, rfl, .inl (.inl (.inl t)), q _ _ (Grow.refl H) (.int _)⟩)
  · rename_i l
    obtain ⟨v, rfl, zx, a, vs, rfl, t, r⟩ := one_of hx
    cases e : intsOf l with
    | none => rw [e] at ho; cases ho
    | some ns =>
      rw [e] at ho
      cases ns with
      | nil => cases ho
      | cons n ns =>
        cases ho
        rw [of_intsOf e] at r
        have ev := r.of_ints
        subst ev
        exact .inr (.inr ⟨a, n, ns, rfl, .inr t.sq, q _ _ (Grow.refl H) (.int _)⟩)
  · cases ho
theorem foldl_max_mem : ∀ (r : List Int) (n : Int), r.foldl max n ∈ n :: r ∧ ∀ y ∈ n :: r, y ≤ r.foldl max n
  | [], n => ⟨by simp, by simp⟩
  | m :: r, n => by
    obtain ⟨h1, h2⟩ := foldl_max_mem r (max n m)
    rw [List.foldl_cons]
    refine ⟨?_, fun y hy => ?_⟩
    · rcases List.mem_cons.mp h1 with e | e
      · rw [e]; rcases Int.le_total n m with z | z
        · rw [Int.max_eq_right z]; simp
        · rw [Int.max_eq_left z]; simp
      · exact List.mem_cons_of_mem _ (List.mem_cons_of_mem _ e)
    · have h3 := h2 (max n m) List.mem_cons_self
      rcases List.mem_cons.mp hy with e | hy
      · omega
      · rcases List.mem_cons.mp hy with e | hy
        · omega
        · exact h2 y (List.mem_cons_of_mem _ hy)
theorem foldl_min_mem : ∀ (r : List Int) (n : Int), r.foldl min n ∈ n :: r ∧ ∀ y ∈ n :: r, r.foldl min n ≤ y
  | [], n => ⟨by simp, by simp⟩
  | m :: r, n => by
    obtain ⟨h1, h2⟩ := foldl_min_mem r (min n m)
    rw [List.foldl_cons]
    refine ⟨?_, fun y hy => ?_⟩
    · rcases List.mem_cons.mp h1 with e | e
      · rw [e]; rcases Int.le_total n m with z | z
        · rw [Int.min_eq_left z]; simp
        · rw [Int.min_eq_right z]; simp
      · exact List.mem_cons_of_mem _ (List.mem_cons_of_mem _ e)
    · have h3 := h2 (min n m) List.mem_cons_self
      rcases List.mem_cons.mp hy with e | hy
      · omega
      · rcases List.mem_cons.mp hy with e | hy
        · omega
        · exact h2 y (List.mem_cons_of_mem _ hy)
end
theorem ct_len : CallT lenF := fun ds d h => by unfold lenF at h; split at h <;> first | rfl | cases h
theorem ct_abs : CallT absF := fun ds d h => by unfold absF at h; split at h <;> first | rfl | cases h
theorem ct_int : CallT intF := fun ds d h => by unfold intF at h; split at h <;> first | rfl | cases h
theorem ct_sum : CallT sumF := fun ds d h => by unfold sumF at h; split at h <;> first | rfl | cases h
theorem ct_all : CallT allF := fun ds d h => by unfold allF at h; split at h <;> first | rfl | cases h
theorem ct_any : CallT anyF := fun ds d h => by unfold anyF at h; split at h <;> first | rfl | cases h
theorem ct_tup : CallT tupF := fun ds d h => by unfold tupF at h; split at h <;> first | rfl | cases h
theorem ct_lst : CallT lstF := fun ds d h => by unfold lstF at h; split at h <;> first | rfl | cases h
theorem ct_big {f : Int → Int → Int} : CallT (bigF f) := fun ds d h => by unfold bigF at h; split at h <;> first | rfl | cases h
theorem maxOf_eq (n : Int) : ∀ r : List Int, r.foldl max n = PySem.W.maxOf n r := fun r => by
  unfold PySem.W.maxOf
  congr 1
  funext a y
  show max a y = if decide (a < y) = true then y else a
  by_cases h : a < y
  · rw [decide_eq_true h, if_pos rfl, Int.max_eq_right (by omega)]
  · rw [decide_eq_false h, if_neg Bool.false_ne_true, Int.max_eq_left (by omega)]
theorem minOf_eq (n : Int) : ∀ r : List Int, r.foldl min n = PySem.W.minOf n r := fun r => by
  unfold PySem.W.minOf
  congr 1
  funext a y
  show min a y = if decide (y < a) = true then y else a
  by_cases h : y < a
  · rw [decide_eq_true h, if_pos rfl, Int.min_eq_right (by omega)]
  · rw [decide_eq_false h, if_neg Bool.false_ne_true, Int.min_eq_left (by omega)]
section
variable {X : Cx}
theorem call_maxM (hc : X.calm = true) (hu : X.A.units + 64 < cLine) : CallR X (.builtin "max") (rBig X.K max) := by
  intro pins s σ H xs us Q I r h
  rcases h with ⟨i, j, rfl, q⟩ | ⟨i, j, k, rfl, q⟩ | ⟨a, n, rr, rfl, hs, q⟩
  · refine call_max2 hc pins s σ H _ us Q I r ⟨i, j, rfl, ?_⟩
    have : (if j > i then j else i) = max i j := by split <;> omega
    rw [this]; exact q
  · refine call_max3Nu hc pins s σ H _ us Q I r ⟨.int i, .int j, .int k, .int (max (max i j) k), rfl, ?_, q⟩
    have e1 : nuMax2 (.int i) (.int j) = some (.int (max i j)) := by
      show (some (decide (i < j))).map (fun c => if c = true then V.int j else V.int i) = _
      by_cases h : i < j
      · rw [decide_eq_true h, Int.max_eq_right (by omega)]; rfl
      · rw [decide_eq_false h, Int.max_eq_left (by omega)]; rfl
    have e2 : nuMax2 (.int (max i j)) (.int k) = some (.int (max (max i j) k)) := by
      show (some (decide (max i j < k))).map (fun c => if c = true then V.int k else V.int (max i j)) = _
      by_cases h : max i j < k
      · rw [decide_eq_true h, Int.max_eq_right (a := max i j) (by omega)]; rfl
      · rw [decide_eq_false h, Int.max_eq_left (a := max i j) (by omega)]; rfl
    unfold nuMax3
    rw [e1]
    exact e2
  · rcases hs with hs | hs
    · refine cr_max hc pins s σ H _ us Q I r ⟨a, n :: rr, rfl, hs, by simp, fun m h1 h2 => ?_⟩
      obtain ⟨g1, g2⟩ := foldl_max_mem rr n
      have : m = rr.foldl max n := Int.le_antisymm (g2 m h1) (h2 _ g1)
      rw [this]; exact q
    · obtain ⟨its, rv, ht, _⟩ := I.tuple hs
      rw [Vals.ref1 r]
      refine PySem.W.max_tuple_datum (α := Int) (x := n) (xs := rr) (I.ok.hd hc) (show s.heap.IsTuple a its.toArray from ht) (PySem.W.HoldAll.of_ints (by simpa using rv.ints)) (by show X.A.units + 1 + 0 < cLine; omega) fun i v h' tk hv hh hk => ?_
      obtain ⟨tk', rfl⟩ := PySem.W.int_of_holds hh
      exact ⟨.int _, H, I.kept hk, ⟨_, rfl⟩, by rw [← maxOf_eq]; exact q⟩
theorem call_minM (hc : X.calm = true) (hu : X.A.units + 64 < cLine) : CallR X (.builtin "min") (rBig X.K min) := by
  intro pins s σ H xs us Q I r h
  rcases h with ⟨i, j, rfl, q⟩ | ⟨i, j, k, rfl, q⟩ | ⟨a, n, rr, rfl, hs, q⟩
  · refine call_min2 hc pins s σ H _ us Q I r ⟨i, j, rfl, ?_⟩
    have : (if j < i then j else i) = min i j := by split <;> omega
    rw [this]; exact q
  · refine call_min3Nu hc pins s σ H _ us Q I r ⟨.int i, .int j, .int k, .int (min (min i j) k), rfl, ?_, q⟩
    have e1 : nuMin2 (.int i) (.int j) = some (.int (min i j)) := by
      show (some (decide (j < i))).map (fun c => if c = true then V.int j else V.int i) = _
      by_cases h : j < i
      · rw [decide_eq_true h, Int.min_eq_right (by omega)]; rfl
      · rw [decide_eq_false h, Int.min_eq_left (by omega)]; rfl
    have e2 : nuMin2 (.int (min i j)) (.int k) = some (.int (min (min i j) k)) := by
      show (some (decide (k < min i j))).map (fun c => if c = true then V.int k else V.int (min i j)) = _
      by_cases h : k < min i j
      · rw [decide_eq_true h, Int.min_eq_right (a := min i j) (by omega)]; rfl
      · rw [decide_eq_false h, Int.min_eq_left (a := min i j) (by omega)]; rfl
    unfold nuMin3
    rw [e1]
    exact e2
  · rcases hs with hs | hs
    · refine cr_min hc pins s σ H _ us Q I r ⟨a, n :: rr, rfl, hs, by simp, fun m h1 h2 => ?_⟩
      obtain ⟨g1, g2⟩ := foldl_min_mem rr n
      have : m = rr.foldl min n := Int.le_antisymm (h2 _ g1) (g2 m h1)
      rw [this]; exact q
    · obtain ⟨its, rv, ht, _⟩ := I.tuple hs
      rw [Vals.ref1 r]
      refine PySem.W.min_tuple_datum (α := Int) (x := n) (xs := rr) (I.ok.hd hc) (show s.heap.IsTuple a its.toArray from ht) (PySem.W.HoldAll.of_ints (by simpa using rv.ints)) (by show X.A.units + 1 + 0 < cLine; omega) fun i v h' tk hv hh hk => ?_
      obtain ⟨tk', rfl⟩ := PySem.W.int_of_holds hh
      exact ⟨.int _, H, I.kept hk, ⟨_, rfl⟩, by rw [← minOf_eq]; exact q⟩
end
end Pm
namespace Pm
open PySem L2

/-! ### isinstance -/
def tyD : D → Option String
  | .non => some "NoneType"
  | .bl _ => some "bool"
  | .int _ => some "int"
  | .str _ => some "str"
  | .tup _ => some "tuple"
  | .lst _ => some "list"
  | .scr _ => some "list"
  | .dk _ => some "dict"
  | .dt _ => some "dict"
  | _ => none
def isiD (T : String) (d : D) : Option Bool := (tyD d).bind fun a => kitB a T
theorem k_ii : kitB "int" "int" = some true := by decide +kernel
theorem k_ib : kitB "int" "bool" = some false := by decide +kernel
theorem k_it : kitB "int" "tuple" = some false := by decide +kernel
theorem k_is : kitB "int" "str" = some false := by decide +kernel
theorem k_bi : kitB "bool" "int" = some true := by decide +kernel
theorem k_bb : kitB "bool" "bool" = some true := by decide +kernel
theorem k_bt : kitB "bool" "tuple" = some false := by decide +kernel
theorem k_bs : kitB "bool" "str" = some false := by decide +kernel
theorem k_ti : kitB "tuple" "int" = some false := by decide +kernel
theorem k_tb : kitB "tuple" "bool" = some false := by decide +kernel
theorem k_tt : kitB "tuple" "tuple" = some true := by decide +kernel
theorem k_ts : kitB "tuple" "str" = some false := by decide +kernel
theorem k_si : kitB "str" "int" = some false := by decide +kernel
theorem k_sb : kitB "str" "bool" = some false := by decide +kernel
theorem k_st : kitB "str" "tuple" = some false := by decide +kernel
theorem k_ss : kitB "str" "str" = some true := by decide +kernel
theorem k_ni : kitB "NoneType" "int" = some false := by decide +kernel
theorem k_nb : kitB "NoneType" "bool" = some false := by decide +kernel
theorem k_nt : kitB "NoneType" "tuple" = some false := by decide +kernel
theorem k_ns : kitB "NoneType" "str" = some false := by decide +kernel
theorem k_li : kitB "list" "int" = some false := by decide +kernel
theorem k_lb : kitB "list" "bool" = some false := by decide +kernel
theorem k_lt : kitB "list" "tuple" = some false := by decide +kernel
theorem k_ls : kitB "list" "str" = some false := by decide +kernel
def isiInt : D → Bool | .int _ => true | .bl _ => true | _ => false
def isiBool : D → Bool | .bl _ => true | _ => false
def isiTup : D → Bool | .tup _ => true | _ => false
def isiStr : D → Bool | .str _ => true | _ => false
/-- none, truth, number, text, tuple, list -/
def plainD : D → Bool | .non => true | .bl _ => true | .int _ => true | .str _ => true | .tup _ => true | .lst _ => true | .scr _ => true | _ => false
theorem isi_int {d : D} (h : plainD d = true) : isiD "int" d = some (isiInt d) := by cases d <;> first | exact k_ii | exact k_bi | exact k_ti | exact k_si | exact k_ni | exact k_li | cases h
theorem isi_bool {d : D} (h : plainD d = true) : isiD "bool" d = some (isiBool d) := by cases d <;> first | exact k_ib | exact k_bb | exact k_tb | exact k_sb | exact k_nb | exact k_lb | cases h
theorem isi_tup {d : D} (h : plainD d = true) : isiD "tuple" d = some (isiTup d) := by cases d <;> first | exact k_it | exact k_bt | exact k_tt | exact k_st | exact k_nt | exact k_lt | cases h
theorem isi_str {d : D} (h : plainD d = true) : isiD "str" d = some (isiStr d) := by cases d <;> first | exact k_is | exact k_bs | exact k_ts | exact k_ss | exact k_ns | exact k_ls | cases h

section
variable {K : PySem.W.Frag} {ws : Wa} {B : Addr → Prop} {H : Hp}
theorem ty_of {v : V} {d : D} {a : String} (h : DW K ws B H v d) (ht : tyD d = some a) : TyX K H v (.type a) := by
  cases d with
  | non => cases h; cases ht; exact .base .non
  | bl => cases h; cases ht; exact .base (.bl _)
  | int => cases h; cases ht; exact .base (.int _)
  | str => cases h; cases ht; exact .base (.str _)
  | tup l =>
    obtain ⟨_, a, vs, rfl, t, r⟩ := h
    cases ht
    rcases t with ⟨_, t | ⟨o, t⟩⟩ | ⟨o, its, n, h1, h2, _⟩
    · exact .base (.tup t)
    · exact .fTuple t
    · exact .kTuple h1 h2
  | lst l =>
    obtain ⟨_, a, vs, rfl, t, r⟩ := h
    cases ht
    exact .base (.lst t)
  | scr l =>
    obtain ⟨a, rfl, t⟩ := h
    cases ht
    rcases t with (t | ⟨o, t⟩) | ⟨o, its, n, h1, h2, _⟩
    · exact .base (.lst t)
    · exact .base (.frz t)
    · exact .kList h1 h2
  | dk l =>
    obtain ⟨a, kvs, rfl, t, _⟩ := h
    cases ht
    exact .base (.dK t)
  | dt l =>
    obtain ⟨a, kvs, rfl, t, _⟩ := h
    cases ht
    exact .base (.dT t)
  | _ => cases ht
end

def rdb_isi {T : String} {d : D} {b : Bool} (h : isiD T d = some b) : rdb d = true := by cases d <;> first | rfl | cases h
def fIsi (T : String) (x : M D) : M D := x.bind fun d => (M.opt (isiD T d)).bind fun b => M.pure (.bl b)
section
variable {X : Cx} {Wx : WX} {a : Expr} {pos p p' : Pos}
theorem m_isi {T : String} {x : Str} {f : Dn} (ha : PRm X Wx a f) (hm : X.mg "isinstance" = none) (hT : PE X (.Name x p') (tC (.ty T))) (hg : Gl X "isinstance" := by rfl)
    (he : starEach (a :: [.Name x p']) X.env = (false, eval a X.env) :: starEach [.Name x p'] X.env := by rfl) (hpl : (backTo pos (starEach [.Name x p'] X.env)).any (·.1) = false := by rfl)
    (hs : starEach (.Name x p' :: []) X.env = (false, eval (.Name x p') X.env) :: starEach [] X.env := by rfl) : PEm X Wx (.Call (.Name "isinstance" p) [a, .Name x p'] [] pos) (fun sl => fIsi T (f sl)) := by
  refine (pe_callB call_isi hg hm (by decide +kernel) (pa_cons ha (pa_cons hT pa_nil hs) he) (by decide) (by decide) he hpl).mimp fun σ H Q ⟨ws, B0, sl, w, e, h⟩ => ?_
  refine ⟨ws, B0, sl, w, e, (runAt.bind h).mono fun ws1 s1 d H1 l1 e1 h1 v hv => ?_⟩
  cases q2 : isiD T d with
  | none => rw [q2] at h1; exact h1.elim
  | some b =>
    rw [q2] at h1
    cases q3 : tyD d with
    | none => simp [isiD, q3] at q2
    | some t =>
      have q4 : kitB t T = some b := by simpa [isiD, q3] using q2
      exact ⟨v, .ty T, .type t, .type T, b, rfl, .ty T, ty_of (e1.rv hv (rdb_isi q2)) q3, kit_ty q4, runAt.here e1 h1 _ (.bl b)⟩
end

/-! ### statements -/
abbrev Kn := Ls → M D
/-- a statement: what comes next, behind a break, behind a continue; the slots -/
abbrev Sk := Kn → Kn → Kn → Ls → M D
section
variable (K : PySem.W.Frag) (mg : Str → Option Value) (Wx : WX) (ws : Wa) (B0 : Addr → Prop) (sl : Ls) (σ : L2.St) (H : Hp)
/-- r is the answer of the whole -/
structure Ans (r : Rs D) (nx bk ct : Kn) (D0 : Ends) : Prop where
  nb : r ≠ .bad
  nx : ∀ σ' ws' sl' w' H', Le ws (Own sl σ) H ws' (Own sl' σ') H' → Env K ws' B0 sl' w' σ' H' → nx sl' w' = r → D0.nx σ' H'
  bk : ∀ σ' ws' sl' w' H', Le ws (Own sl σ) H ws' (Own sl' σ') H' → Env K ws' B0 sl' w' σ' H' → bk sl' w' = r → D0.bk σ' H'
  ct : ∀ σ' ws' sl' w' H', Le ws (Own sl σ) H ws' (Own sl' σ') H' → Env K ws' B0 sl' w' σ' H' → ct sl' w' = r → D0.ct σ' H'
  rt : ∀ d w', r = .ok d w' → ∀ σ' ws' sl' H' v, Le ws (Own sl σ) H ws' (Own sl' σ') H' → Env K ws' B0 sl' w' σ' H' → DR K ws' (fun a => ws'.has a ∨ B0 a) H' v d → D0.rt v H'
  ex : ∀ c w', r = .ex c w' → ∀ σ' ws' sl' H' C, mg c = some (.ref C) → Le ws (Own sl σ) H ws' (Own sl' σ') H' → Env K ws' B0 sl' w' σ' H' → Wx (.ref C) none σ' H'
end
def tS (K : PySem.W.Frag) (mg : Str → Option Value) (Wx : WX) (b : Sk) : TS := fun D0 σ H => ∃ ws B0 sl w nx bk ct, Env K ws B0 sl w σ H ∧ Ans K mg Wx ws B0 sl σ H (b nx bk ct sl w) nx bk ct D0
abbrev PSm (X : Cx) (Wx : WX) (st : Stmt) (b : Sk) : Prop := PS X st (tS X.K X.mg Wx b)
abbrev PSsm (X : Cx) (Wx : WX) (st : List Stmt) (b : Sk) : Prop := PSs X st (tS X.K X.mg Wx b)
section
variable {K : PySem.W.Frag} {mg : Str → Option Value} {Wx : WX} {ws ws1 : Wa} {B0 : Addr → Prop} {sl sl1 : Ls} {w w1 : W} {σ σ1 : L2.St} {H H1 : Hp} {r : Rs D} {nx bk ct : Kn} {D0 D1 : Ends}
theorem Ans.le (l : Le ws (Own sl σ) H ws1 (Own sl1 σ1) H1) (h : Ans K mg Wx ws B0 sl σ H r nx bk ct D0) : Ans K mg Wx ws1 B0 sl1 σ1 H1 r nx bk ct D0 where
  nb := h.nb
  nx := fun σ' ws' sl' w' H' l' => h.nx σ' ws' sl' w' H' (l.trans l')
  bk := fun σ' ws' sl' w' H' l' => h.bk σ' ws' sl' w' H' (l.trans l')
  ct := fun σ' ws' sl' w' H' l' => h.ct σ' ws' sl' w' H' (l.trans l')
  rt := fun d w' e σ' ws' sl' H' v l' => h.rt d w' e σ' ws' sl' H' v (l.trans l')
  ex := fun c w' e σ' ws' sl' H' C hC l' => h.ex c w' e σ' ws' sl' H' C hC (l.trans l')
/-- an expression, then the rest -/
theorem Ans.bind {α : Type} {m : M α} {g : α → M D} (h : Ans K mg Wx ws B0 sl σ H (M.bind m g w) nx bk ct D0) : runAt K mg Wx ws B0 sl σ H (m w) (fun ws' w' a H' => Ans K mg Wx ws' B0 sl σ H' (g a w') nx bk ct D0) := by
  unfold M.bind at h
  cases q : m w with
  | ok a w1 => rw [q] at h; exact fun ws1 H1 l1 e1 => Ans.le l1 h
  | ex c w1 => rw [q] at h; exact fun ws' H' C hc l e => h.ex c w1 rfl σ ws' sl H' C hc l e
  | bad => rw [q] at h; exact absurd rfl h.nb
theorem Ans.opt {α : Type} {o : Option α} {g : α → M D} (h : Ans K mg Wx ws B0 sl σ H (M.bind (M.opt o) g w) nx bk ct D0) : ∃ a, o = some a ∧ Ans K mg Wx ws B0 sl σ H (g a w) nx bk ct D0 := by
  cases o with
  | none => exact absurd rfl h.nb
  | some a => exact ⟨a, rfl, h⟩
end
section
variable {X : Cx} {Wx : WX} {st : Stmt} {rest : List Stmt} {e c : Expr} {pos : Pos} {b1 b2 : Sk}
theorem ms_nil : PSsm X Wx [] (fun nx _ _ sl => nx sl) := pss_nil.mimp fun D0 σ H ⟨ws, B0, sl, w, nx, bk, ct, e, h⟩ => h.nx σ ws sl w H (Le.refl _ _ _) e rfl
theorem ms_cons (h1 : PSm X Wx st b1) (h2 : PSsm X Wx rest b2) : PSsm X Wx (st :: rest) (fun nx bk ct sl => b1 (fun sl' => b2 nx bk ct sl') bk ct sl) := by
  refine (pss_cons h1 h2).mimp fun D0 σ H ⟨ws, B0, sl, w, nx, bk, ct, e, h⟩ => ?_
  exact ⟨ws, B0, sl, w, fun sl' => b2 nx bk ct sl', bk, ct, e, h.nb, fun σ' ws' sl' w' H' l' e' q => ⟨ws', B0, sl', w', nx, bk, ct, e', by rw [q]; exact h.le l'⟩, h.bk, h.ct, h.rt, h.ex⟩
theorem ms_one (h1 : PSm X Wx st b1) : PSsm X Wx [st] b1 := pss_one h1
theorem ms_pass : PSm X Wx (.Pass pos) (fun nx _ _ sl => nx sl) := ps_pass.mimp fun D0 σ H ⟨ws, B0, sl, w, nx, bk, ct, e, h⟩ => h.nx σ ws sl w H (Le.refl _ _ _) e rfl
theorem ms_break : PSm X Wx (.Break pos) (fun _ bk _ sl => bk sl) := ps_break.mimp fun D0 σ H ⟨ws, B0, sl, w, nx, bk, ct, e, h⟩ => h.bk σ ws sl w H (Le.refl _ _ _) e rfl
theorem ms_if {cf : Bn} {a b : List Stmt} (hc : PTm X Wx c cf) (ha : PSsm X Wx a b1) (hb : PSsm X Wx b b2) : PSm X Wx (.If c a b pos) (fun nx bk ct sl => fIf (cf sl) (b1 nx bk ct sl) (b2 nx bk ct sl)) := by
  refine (ps_if hc ha hb).mimp fun D0 σ H ⟨ws, B0, sl, w, nx, bk, ct, e, h⟩ => ?_
  refine ⟨ws, B0, sl, w, e, (Ans.bind h).mono fun ws1 w1 k H1 l1 e1 h1 => ?_⟩
  cases k with
  | true => exact ⟨ws1, B0, sl, w1, nx, bk, ct, e1, h1⟩
  | false => exact ⟨ws1, B0, sl, w1, nx, bk, ct, e1, h1⟩
theorem DR.ret {K : PySem.W.Frag} {ws : Wa} {B0 : Addr → Prop} {sl : Ls} {σ : L2.St} {H : Hp} {v : V} {d : D} (h : DR K ws (Bad ws B0 sl σ) H v d) : DR K ws (fun a => ws.has a ∨ B0 a) H v d :=
  h.keep ws.le_refl (fun _ _ e _ => e) fun a z => .inl (z.imp id fun q => .inl q)
theorem DRs.ret {K : PySem.W.Frag} {ws : Wa} {B0 : Addr → Prop} {sl : Ls} {σ : L2.St} {H : Hp} {v : List V} {d : List D} (h : DRs K ws (Bad ws B0 sl σ) H v d) : DRs K ws (fun a => ws.has a ∨ B0 a) H v d :=
  h.keep ws.le_refl (fun _ _ e _ => e) fun a z => .inl (z.imp id fun q => .inl q)
theorem RV.ret {K : PySem.W.Frag} {ws : Wa} {B0 : Addr → Prop} {sl : Ls} {w : W} {σ : L2.St} {H : Hp} {v : V} {d : D} (e : Env K ws B0 sl w σ H) (h : RV K ws B0 sl σ H v d) : DR K ws (fun a => ws.has a ∨ B0 a) H v d := by
  rcases h with ⟨i, h1, h2⟩ | h
  · obtain ⟨a, q1, q2, q3, q4⟩ := e.ow i d h1
    rw [h2] at q1
    cases q1
    have nb : ¬ (ws.has a ∨ B0 a) := fun z => z.elim q3 q4
    cases d <;> first
      | exact q2.elim
      | (obtain ⟨vs, p1, p2, p3⟩ := q2; exact .lst p2 nb p1 p3.ret)
      | (obtain ⟨vs, p1, p2, p3⟩ := q2; exact .dk nb p1 p2 p3.ret)
      | (obtain ⟨vs, p1, p2, p3⟩ := q2; exact .dt nb p1 p2 p3.ret)
  · exact h.ret
theorem ms_ret {f : Dn} (he : PRm X Wx e f) : PSm X Wx (.Return (some e) pos) (fun _ _ _ sl => f sl) := by
  refine (ps_ret he).mimp fun D0 σ H ⟨ws, B0, sl, w, nx, bk, ct, e, h⟩ => ?_
  refine ⟨ws, B0, sl, w, e, ?_⟩
  have h : Ans X.K X.mg Wx ws B0 sl σ H (f sl w) nx bk ct D0 := h
  cases q : f sl w with
  | bad => rw [q] at h; exact absurd rfl h.nb
  | ex c w1 => rw [q] at h; exact fun ws' H' C hc l e => h.ex c w1 rfl σ ws' sl H' C hc l e
  | ok d w1 =>
    rw [q] at h
    exact fun ws' H' l e' v hv => h.rt d w1 rfl σ ws' sl H' v l e' (hv.ret e')
theorem ms_expr {f : Dn} (he : PRm X Wx e f) (hs : swapsWith e none pos.line X.env = pure false := by rfl) : PSm X Wx (.Expr e pos) (fun nx _ _ sl => (f sl).bind fun _ => nx sl) := by
  refine (ps_expr he hs).mimp fun D0 σ H ⟨ws, B0, sl, w, nx, bk, ct, e, h⟩ => ?_
  exact ⟨ws, B0, sl, w, e, (Ans.bind h).mono fun ws1 w1 d H1 l1 e1 h1 v hv => h1.nx σ ws1 sl w1 H1 (Le.refl _ _ _) e1 rfl⟩
end
section
variable {K : PySem.W.Frag} {ws : Wa} {B0 : Addr → Prop} {sl : Ls} {w : W} {σ : L2.St} {H : Hp} {v : V} {d : D} {i : Nat}
/-- a value is stored in slot i -/
theorem Env.put (e : Env K ws B0 sl w σ H) (hv : DR K ws (Bad ws B0 sl σ) H v d) : Le ws (Own sl σ) H ws (Own (sl.set i (.va d)) (σ.set i (some v))) H ∧ Env K ws B0 (sl.set i (.va d)) w (σ.set i (some v)) H := by
  have hO : ∀ a, Own (sl.set i (.va d)) (σ.set i (some v)) a → Own sl σ a := fun a ⟨j, dj, h1, h2⟩ => by
    rcases get_set h1 with ⟨_, z, _⟩ | ⟨n, h1⟩
    · cases z
    · rw [List.getElem?_set_ne (Ne.symm n)] at h2
      exact ⟨j, dj, h1, h2⟩
  have l : Le ws (Own sl σ) H ws (Own (sl.set i (.va d)) (σ.set i (some v))) H := ⟨ws.le_refl, fun _ h => .inl h, fun a h => .inl (hO a h), fun _ _ h _ _ => h, fun _ h => h⟩
  refine ⟨l, ⟨?_, e.wr, e.bx, e.dom, fun j dj hj => ?_, fun j dj hj => ?_, fun j k dj dk a hj hk ha hb => ?_⟩⟩
  · rw [List.length_set, List.length_set]; exact e.len
  · rcases get_set hj with ⟨rfl, z, hl⟩ | ⟨n, hj⟩
    · cases z
      exact ⟨v, by rw [List.getElem?_set_self (by rw [← e.len]; exact hl)], hv.le l⟩
    · obtain ⟨u, h1, h2⟩ := e.va j dj hj
      exact ⟨u, by rw [List.getElem?_set_ne (Ne.symm n)]; exact h1, h2.le l⟩
  · rcases get_set hj with ⟨rfl, z, hl⟩ | ⟨n, hj⟩
    · cases z
    · obtain ⟨a, h1, h2, h3⟩ := e.ow j dj hj
      refine ⟨a, by rw [List.getElem?_set_ne (Ne.symm n)]; exact h1, ?_, h3⟩
      cases dj <;> first
        | exact h2.elim
        | (obtain ⟨vs, r1, r2, r3⟩ := h2; exact ⟨vs, r1, r2, r3.le l⟩)
  · rcases get_set hj with ⟨rfl, z, _⟩ | ⟨n1, hj⟩
    · cases z
    · rcases get_set hk with ⟨rfl, z, _⟩ | ⟨n2, hk⟩
      · cases z
      · rw [List.getElem?_set_ne (Ne.symm n1)] at ha
        rw [List.getElem?_set_ne (Ne.symm n2)] at hb
        exact e.uq j k dj dk a hj hk ha hb
/-- what a new object holds -/
def ON (K : PySem.W.Frag) (ws : Wa) (B : Addr → Prop) (H : Hp) (o : HO) : D → Prop
  | .lst ds => ∃ vs, o = .lst vs ∧ ds.length ≤ sizeLine ∧ DRs K ws B H vs ds
  | .dk es => ∃ kvs, o = .dK kvs ∧ kvs.map (·.1) = es.map (·.1) ∧ DRs K ws B H (kvs.map (·.2)) (es.map (·.2))
  | .dt es => ∃ kvs, o = .dT kvs ∧ kvs.map (·.1) = es.map (·.1) ∧ DRs K ws B H (kvs.map (·.2)) (es.map (·.2))
  | _ => False
/-- a new object is stored in slot i, which owns it -/
theorem Env.putOwn {p : Addr} {o : HO} (e : Env K ws B0 sl w σ H) (hp : H p = none) (ho : ON K ws (Bad ws B0 sl σ) H o d) :
    Le ws (Own sl σ) H ws (Own (sl.set i (.ow d)) (σ.set i (some (.ref p)))) (upd H p o) ∧ Env K ws B0 (sl.set i (.ow d)) w (σ.set i (some (.ref p))) (upd H p o) := by
  have g := Grow.new (o := o) hp
  have hO : ∀ a, Own (sl.set i (.ow d)) (σ.set i (some (.ref p))) a → Own sl σ a ∨ a = p := fun a ⟨j, dj, h1, h2⟩ => by
    rcases get_set h1 with ⟨rfl, z, hl⟩ | ⟨n, h1⟩
    · rw [List.getElem?_set_self (by rw [← e.len]; exact hl)] at h2
      cases h2; exact .inr rfl
    · rw [List.getElem?_set_ne (Ne.symm n)] at h2
      exact .inl ⟨j, dj, h1, h2⟩
  have l : Le ws (Own sl σ) H ws (Own (sl.set i (.ow d)) (σ.set i (some (.ref p)))) (upd H p o) :=
    ⟨ws.le_refl, fun _ h => .inl h, fun a h => (hO a h).imp id fun z => by rw [z]; exact hp, fun a u h _ _ => g a u h, g.ex⟩
  refine ⟨l, ⟨?_, e.wr.grow g, e.bx.keep e.dom (fun _ z => .inl z) (fun a o _ z => g a o z), fun a h z => e.dom a h (g.ex a z), fun j dj hj => ?_, fun j dj hj => ?_, fun j k dj dk a hj hk ha hb => ?_⟩⟩
  · rw [List.length_set, List.length_set]; exact e.len
  · rcases get_set hj with ⟨rfl, z, hl⟩ | ⟨n, hj⟩
    · cases z
    · obtain ⟨u, h1, h2⟩ := e.va j dj hj
      exact ⟨u, by rw [List.getElem?_set_ne (Ne.symm n)]; exact h1, h2.le l⟩
  · rcases get_set hj with ⟨rfl, z, hl⟩ | ⟨n, hj⟩
    · cases z
      refine ⟨p, by rw [List.getElem?_set_self (by rw [← e.len]; exact hl)], ?_, fun z => e.fresh hp (.inl z), fun z => e.fresh hp (.inr (.inl z))⟩
      cases d <;> first
        | exact ho.elim
        | (obtain ⟨vs, rfl, r2, r3⟩ := ho; exact ⟨vs, upd_same, r2, r3.le l⟩)
    · obtain ⟨a, h1, h2, h3⟩ := e.ow j dj hj
      refine ⟨a, by rw [List.getElem?_set_ne (Ne.symm n)]; exact h1, ?_, h3⟩
      cases dj <;> first
        | exact h2.elim
        | (obtain ⟨vs, r1, r2, r3⟩ := h2; exact ⟨vs, g _ _ r1, r2, r3.le l⟩)
  · have old : ∀ {q : Nat} {dq : D}, sl[q]? = some (.ow dq) → σ[q]? ≠ some (some (.ref p)) := fun {q dq} h1 h2 => e.fresh hp (.inr (.inr ⟨q, dq, h1, h2⟩))
    rcases get_set hj with ⟨rfl, z, hl⟩ | ⟨n1, hj'⟩
    · rw [List.getElem?_set_self (by rw [← e.len]; exact hl)] at ha
      cases ha
      rcases get_set hk with ⟨rfl, z, _⟩ | ⟨n2, hk'⟩
      · rfl
      · rw [List.getElem?_set_ne (Ne.symm n2)] at hb
        exact absurd hb (old hk')
    · rw [List.getElem?_set_ne (Ne.symm n1)] at ha
      rcases get_set hk with ⟨rfl, z, hl⟩ | ⟨n2, hk'⟩
      · rw [List.getElem?_set_self (by rw [← e.len]; exact hl)] at hb
        cases hb
        exact absurd ha (old hj')
      · rw [List.getElem?_set_ne (Ne.symm n2)] at hb
        exact e.uq j k dj dk a hj' hk' ha hb
end
end Pm
namespace Pm
open PySem L2

/-! ### an expression that makes a new object, for a slot to own -/
def tF (K : PySem.W.Frag) (mg : Str → Option Value) (Wx : WX) (f : Dn) : TE := fun σ H Q => ∃ ws B0 sl w, Env K ws B0 sl w σ H ∧ runAt K mg Wx ws B0 sl σ H (f sl w) fun ws' _ d H' => ∀ p o, H' p = none → ON K ws' (Bad ws' B0 sl σ) H' o d → Q (.ref p) (upd H' p o)
abbrev PFm (X : Cx) (Wx : WX) (e : Expr) (f : Dn) : Prop := PE X e (tF X.K X.mg Wx f)
section
variable {X : Cx} {Wx : WX} {e : Expr} {es : List Expr} {pos pos' : Pos} {x : Str} {i : Nat}
theorem mf_lst {n : Nat} {g : An} (h : PAm X Wx es g) (hn : Cnt n g) (hz : n ≤ 1000 := by decide) : PFm X Wx (.List es pos) (fun sl => fLst (g sl)) := by
  refine (pe_lst h).mimp fun σ H Q ⟨ws, B0, sl, w, e, h⟩ => ?_
  refine ⟨ws, B0, sl, w, e, ?_⟩
  have h1 := runAt.bind h
  cases q : g sl w with
  | bad => rw [q] at h1; exact h1
  | ex c w1 => rw [q] at h1; exact h1
  | ok ds w1 =>
    rw [q] at h1
    intro ws1 H1 l1 e1 vs hvs
    have h2 := h1 ws1 H1 l1 e1
    have hl := hvs.length
    have hz' : ds.length ≤ sizeLine := by rw [hn _ _ _ _ q]; exact Nat.le_trans hz (by decide)
    exact ⟨by omega, fun p hp => runAt.here e1 h2 p _ hp ⟨_, rfl, hz', hvs⟩⟩
theorem mf_dK : PFm X Wx (.Dict [] [] pos) (fun _ => M.pure (.dk [])) := by
  refine pe_dnewK.mimp fun σ H Q ⟨ws, B0, sl, w, e, h⟩ => ?_
  exact fun p hp => runAt.here e h p _ hp ⟨[], rfl, rfl, .nil⟩
theorem mf_dT : PFm X Wx (.Dict [] [] pos) (fun _ => M.pure (.dt [])) := by
  refine pe_dnewT.mimp fun σ H Q ⟨ws, B0, sl, w, e, h⟩ => ?_
  exact fun p hp => runAt.here e h p _ hp ⟨[], rfl, rfl, .nil⟩
theorem ms_own {f : Dn} (hN : X.N.Nodup) (hi : X.N[i]? = some x) (hx : Loc X.env.scope x) (he : PFm X Wx e f) (hs : swapsWith e (some (.Name x pos')) pos.line X.env = pure false := by rfl)
    (hf : X.fn x = true ∨ X.env.scope.names.lookup x = some .local := by first | exact .inl rfl | exact .inr rfl | assumption) : PSm X Wx (.Assign [.Name x pos'] e pos) (fun nx _ _ sl => (f sl).bind fun d => nx (sl.set i (.ow d))) := by
  refine (ps_set hN hi hx he hs hf).mimp fun D0 σ H ⟨ws, B0, sl, w, nx, bk, ct, e, h⟩ => ?_
  refine ⟨ws, B0, sl, w, e, (Ans.bind h).mono fun ws1 w1 d H1 l1 e1 h1 p o hp ho => ?_⟩
  obtain ⟨l2, e2⟩ := e1.putOwn (i := i) hp ho
  exact h1.nx _ _ _ _ _ l2 e2 rfl
theorem set_go {K : PySem.W.Frag} {mg : Str → Option Value} {f : Dn} (D0 : Ends) (σ : L2.St) (H : Hp) (h : tS K mg Wx (fun nx _ _ sl => (f sl).bind fun d => nx (sl.set i (.va d))) D0 σ H) : tAsg (tE K mg Wx f) (gName i) D0 σ H := by
  obtain ⟨ws, B0, sl, w, nx, bk, ct, e, h⟩ := h
  refine ⟨ws, B0, sl, w, e, (Ans.bind h).mono fun ws1 w1 d H1 l1 e1 h1 v hv => ?_⟩
  obtain ⟨l3, e3⟩ := e1.put (i := i) hv
  exact h1.nx _ _ _ _ _ l3 e3 rfl
theorem ms_set {f : Dn} (hN : X.N.Nodup) (hi : X.N[i]? = some x) (hx : Loc X.env.scope x) (he : PEm X Wx e f) (hs : swapsWith e (some (.Name x pos')) pos.line X.env = pure false := by rfl)
    (hf : X.fn x = true ∨ X.env.scope.names.lookup x = some .local := by first | exact .inl rfl | exact .inr rfl | assumption) : PSm X Wx (.Assign [.Name x pos'] e pos) (fun nx _ _ sl => (f sl).bind fun d => nx (sl.set i (.va d))) :=
  (ps_set hN hi hx he hs hf).mimp fun D0 σ H h => set_go D0 σ H h
end

/-! ### changes of owned objects and of the world -/
section
variable {K : PySem.W.Frag} {ws : Wa} {B0 : Addr → Prop} {sl : Ls} {w : W} {σ : L2.St} {H : Hp} {v : V} {d d' : D} {i : Nat} {a p : Addr} {o : HO}
theorem OO.le {ws' : Wa} {sl' : Ls} {σ' : L2.St} {H' : Hp} {b : Addr} {dj : D} (l : Le ws (Own sl σ) H ws' (Own sl' σ') H') (hb : ∀ o, H b = some o → H' b = some o) (h : OO K ws (Bad ws B0 sl σ) H b dj) : OO K ws' (Bad ws' B0 sl' σ') H' b dj := by
  cases dj <;> first
    | exact h.elim
    | (obtain ⟨vs, r1, r2, r3⟩ := h; exact ⟨vs, hb _ r1, r2, r3.le l⟩)
theorem ON.le {ws' : Wa} {sl' : Ls} {σ' : L2.St} {H' : Hp} (l : Le ws (Own sl σ) H ws' (Own sl' σ') H') (h : ON K ws (Bad ws B0 sl σ) H o d) : ON K ws' (Bad ws' B0 sl' σ') H' o d := by
  cases d <;> first
    | exact h.elim
    | (obtain ⟨vs, r1, r2, r3⟩ := h; exact ⟨vs, r1, r2, r3.le l⟩)
theorem ON.oo {B : Addr → Prop} (e : H a = some o) (h : ON K ws B H o d) : OO K ws B H a d := by
  cases d <;> first
    | exact h.elim
    | (obtain ⟨vs, rfl, r2, r3⟩ := h; exact ⟨vs, e, r2, r3⟩)
theorem Env.mutOwn (e : Env K ws B0 sl w σ H) (hi : sl[i]? = some (.ow d)) (ha : σ[i]? = some (some (.ref a))) (ho : ON K ws (Bad ws B0 sl σ) H o d') :
    Le ws (Own sl σ) H ws (Own (sl.set i (.ow d')) σ) (upd H a o) ∧ Env K ws B0 (sl.set i (.ow d')) w σ (upd H a o) := by
  have hil : i < sl.length := (List.getElem?_eq_some_iff.mp hi).1
  have hO : ∀ b, Own (sl.set i (.ow d')) σ b → Own sl σ b := fun b ⟨j, dj, h1, h2⟩ => by
    rcases get_set h1 with ⟨rfl, z, hl⟩ | ⟨n, h1⟩
    · exact ⟨j, d, hi, h2⟩
    · exact ⟨j, dj, h1, h2⟩
  have hOa : Own sl σ a := ⟨i, d, hi, ha⟩
  obtain ⟨a', q1, q2, q3, q4⟩ := e.ow i d hi
  rw [ha] at q1
  cases q1
  have l : Le ws (Own sl σ) H ws (Own (sl.set i (.ow d')) σ) (upd H a o) := by
    refine ⟨ws.le_refl, fun _ h => .inl h, fun b h => .inl (hO b h), fun b u h _ n => ?_, fun b h => ?_⟩
    · rw [upd_ne (fun z => n (by rw [z]; exact hOa))]; exact h
    · by_cases z : b = a
      · subst z; rw [upd_same] at h; cases h
      · rw [upd_ne z] at h; exact h
  have ne : ∀ {b : Addr}, ¬ Own sl σ b → b ≠ a := fun n z => n (by rw [z]; exact hOa)
  refine ⟨l, ⟨by rw [List.length_set]; exact e.len, ?_, e.bx.keep e.dom (fun _ z => .inl z) (fun b u hb z => by rw [upd_ne (fun q => q4 (by rw [← q]; exact hb))]; exact z), fun b h z => e.dom b h (l.ex b z), fun j dj hj => ?_, fun j dj hj => ?_, fun j k dj dk b hj hk hb hc => ?_⟩⟩
  · exact e.wr.upd q3 q2.nx
  · rcases get_set hj with ⟨rfl, z, hl⟩ | ⟨n, hj⟩
    · cases z
    · obtain ⟨u, h1, h2⟩ := e.va j dj hj
      exact ⟨u, h1, h2.le l⟩
  · rcases get_set hj with ⟨rfl, z, hl⟩ | ⟨n, hj⟩
    · cases z
      exact ⟨a, ha, (ho.le l).oo upd_same, q3, q4⟩
    · obtain ⟨b, h1, h2, h3⟩ := e.ow j dj hj
      refine ⟨b, h1, h2.le l fun u hu => ?_, h3⟩
      rw [upd_ne (fun z => n (e.uq j i dj d a hj hi (by rw [← z]; exact h1) ha))]
      exact hu
  · have back : ∀ {q : Nat} {dq : D}, (sl.set i (.ow d'))[q]? = some (.ow dq) → ∃ dr, sl[q]? = some (.ow dr) := fun {q dq} h => by
      rcases get_set h with ⟨rfl, z, hl⟩ | ⟨n, h⟩
      · exact ⟨d, hi⟩
      · exact ⟨dq, h⟩
    obtain ⟨r1, z1⟩ := back hj
    obtain ⟨r2, z2⟩ := back hk
    exact e.uq j k r1 r2 b z1 z2 hb hc
theorem Env.mkTown (e : Env K ws B0 sl w σ H) (q : w.town = none) (hp : H p = none) :
    Le ws (Own sl σ) H ⟨some p, ws.tabs, ws.ob⟩ (Own sl σ) (upd H p (.lst [])) ∧ Env K ⟨some p, ws.tabs, ws.ob⟩ B0 sl ⟨some [], w.objs⟩ σ (upd H p (.lst [])) := by
  obtain ⟨hw, hwt, hwo⟩ := e.wr
  unfold TW at hw
  rw [q] at hw
  cases qa : ws.town with
  | some t => rw [qa] at hw; exact hw.elim
  | none =>
    have g := Grow.new (o := .lst []) hp
    have l : Le ws (Own sl σ) H ⟨some p, ws.tabs, ws.ob⟩ (Own sl σ) (upd H p (.lst [])) := by
      refine ⟨⟨fun a z => ?_, fun _ _ b z => ⟨b, z⟩⟩, fun a z => ?_, fun a z => .inl z, fun a o z _ _ => g a o z, g.ex⟩
      · rw [qa] at z; cases z
      · rcases z with z | z
        · cases z; exact .inr hp
        · exact .inl (.inr z)
    refine ⟨l, ⟨e.len, ?_, e.bx.keep e.dom l.new (fun a o _ z => g a o z), fun a h z => e.dom a h (g.ex a z), fun j dj hj => ?_, fun j dj hj => ?_, e.uq⟩⟩
    · have hg := hwo.grow g
      exact ⟨show upd H p (.lst []) p = some _ from upd_same, hwt.grow g, ⟨hg.len, hg.live, hg.dead, hg.nd, fun a z y => by
        obtain ⟨vs, q1⟩ := hwo.lv_lst z
        cases y
        rw [hp] at q1; cases q1⟩⟩
    · obtain ⟨u, h1, h2⟩ := e.va j dj hj
      exact ⟨u, h1, h2.le l⟩
    · obtain ⟨b, h1, h2, h3, h4⟩ := e.ow j dj hj
      refine ⟨b, h1, h2.le l fun u hu => g _ _ hu, fun z => ?_, h4⟩
      rcases z with z | z
      · cases z
        exact h2.there hp
      · exact h3 (.inr z)
theorem Env.mutTown {l l' : List Int} (e : Env K ws B0 sl w σ H) (q : w.town = some l) (ht : ws.town = some a) :
    Le ws (Own sl σ) H ws (Own sl σ) (upd H a (.lst (l'.map V.int))) ∧ Env K ws B0 sl ⟨some l', w.objs⟩ σ (upd H a (.lst (l'.map V.int))) := by
  have ex : ∀ b, upd H a (.lst (l'.map V.int)) b = none → H b = none := fun b h => by
    by_cases z : b = a
    · subst z; rw [upd_same] at h; cases h
    · rw [upd_ne z] at h; exact h
  have le : Le ws (Own sl σ) H ws (Own sl σ) (upd H a (.lst (l'.map V.int))) := by
    refine ⟨ws.le_refl, fun _ h => .inl h, fun _ h => .inl h, fun b u h n _ => ?_, ex⟩
    rw [upd_ne (fun z => n (by rw [z]; exact .inl ht))]; exact h
  have hwr := e.wr
  have hta : H a = some (.lst (l.map V.int)) := by
    have hw := hwr.1
    unfold TW at hw
    rw [q, ht] at hw
    exact hw
  refine ⟨le, ⟨e.len, ?_, e.bx.keep e.dom (fun _ z => .inl z) (fun b u hb z => by rw [upd_ne (fun q => (e.bx b hb).1 (.inl (by rw [q]; exact ht)))]; exact z), fun b h z => e.dom b h (ex b z), fun j dj hj => ?_, fun j dj hj => ?_, e.uq⟩⟩
  · refine ⟨?_, ⟨hwr.2.1, fun p hp => ?_⟩, OB.same (w := w) rfl (hwr.3.keep (fun b xs z => rd_upd (by rw [hta]; trivial) z) fun b o z l => by rw [upd_ne (fun q => hwr.3.nt b l (by rw [q]; exact ht))]; exact z)⟩
    · unfold TW
      simp only [ht]
      exact upd_same
    · obtain ⟨ps, h1, h2, h3⟩ := hwr.2.2 p hp
      refine ⟨ps, by rw [upd_ne (fun z => by rw [z, hta] at h1; cases h1)]; exact h1, h2, fun pos cv ec => ?_⟩
      obtain ⟨c, e1, e2⟩ := h3 pos cv ec
      exact ⟨c, e1, by rw [upd_ne (fun z => by rw [z, hta] at e2; cases e2)]; exact e2⟩
  · obtain ⟨u, h1, h2⟩ := e.va j dj hj
    exact ⟨u, h1, h2.le le⟩
  · obtain ⟨b, h1, h2, h3, h4⟩ := e.ow j dj hj
    refine ⟨b, h1, h2.le le fun u hu => ?_, h3, h4⟩
    rw [upd_ne (fun z => h3 (by rw [z]; exact .inl ht))]
    exact hu
end
end Pm
namespace Pm
open PySem PySem.Spec PyProof.Rows L2

/-! ### methods that change an owned list -/
def nOwK (i : Nat) (sl : Ls) (k : D → M D) : M D := match sl[i]? with
  | some (.ow o) => k o
  | _ => M.bad
def lstD : D → Option (List D)
  | .lst l => some l
  | _ => none
def appL (l : List D) (a : D) : Option D := if l.length < sizeLine then some (.lst (l ++ [a])) else none
def fApp (o : D) (x : M D) : M D := (M.opt (lstD o)).bind fun l => x.bind fun a => M.opt (appL l a)
def extL (l : List D) (a : D) : Option D := match a with
  | .lst m => if l.length + m.length ≤ sizeLine then some (.lst (l ++ m)) else none
  | _ => none
def fExt (o : D) (x : M D) : M D := (M.opt (lstD o)).bind fun l => x.bind fun a => M.opt (extL l a)
section
variable {X : Cx} {Wx : WX} {o e : Expr} {es : List Expr} {pos np apos cpos : Pos} {x : Str} {i : Nat} {f : Dn}
theorem nOwK_of {K : PySem.W.Frag} {mg : Str → Option Value} {ws : Wa} {B0 : Addr → Prop} {sl : Ls} {w : W} {σ : L2.St} {H : Hp} {nx bk ct : Kn} {D0 : Ends} {k : D → M D} (h : Ans K mg Wx ws B0 sl σ H (nOwK i sl k w) nx bk ct D0) : ∃ d, sl[i]? = some (.ow d) ∧ Ans K mg Wx ws B0 sl σ H (k d w) nx bk ct D0 := by
  unfold nOwK at h
  cases q : sl[i]? with
  | none => rw [q] at h; exact absurd rfl h.nb
  | some z =>
    rw [q] at h
    cases z with
    | no => exact absurd rfl h.nb
    | va d => exact absurd rfl h.nb
    | ow d => exact ⟨d, rfl, h⟩
theorem ms_act {m : Str} {id : String} {r : V → List V → Hp → VK → Prop} {op : List D → D → Option D} (i : Nat) (slot : Slot "list" m id) (hty : typeOf (.builtin id) = pure (.type "method_descriptor")) (hm : MtR X id r)
    (hop : ∀ {ws : Wa} {B : Addr → Prop} {H : Hp} {a : Addr} {vs : List V} {y : V} {l : List D} {d o' : D} {Q : VK}, H a = some (.lst vs) → DRs X.K ws B H vs l → DR X.K ws B H y d → op l d = some o' → (∀ o, ON X.K ws B H o o' → Q .non (upd H a o)) → r (.ref a) [y] H Q)
    (he : PEm X Wx e f) (hN : X.N[i]? = some x) (hv : Vis X.env.scope x) (hd : (x == ("__debug__" : Str)) = false)
    (hcd : (x == ("__classdict__" : Str)) = false) (hbase : attributeBase (.Name x np) m X.env (eval (.Name x np) X.env) = eval (.Name x np) X.env)
    (hfew : ((backTo cpos (starEach (e :: []) X.env)).all (fun x => !x.1) && (backToKw cpos (keywordEach [] X.env)).all (fun x => x.1.isSome)
      && decide ((e :: ([] : List Expr)).length + ([] : List Keyword).length + (if ([] : List Keyword).isEmpty then 0 else 1) < 30)) = true)
    (hline : (apos.endLine == cpos.line) = true) (hs : starEach (e :: []) X.env = (false, eval e X.env) :: starEach [] X.env) (hplain : (backTo cpos (starEach [] X.env)).any (·.1) = false)
    (hsw : swapsWith (.Call (.Attribute (.Name x np) m apos) [e] [] cpos) none pos.line X.env = pure false) :
    PSm X Wx (.Expr (.Call (.Attribute (.Name x np) m apos) [e] [] cpos) pos) (fun nx _ _ sl => nOwK i sl fun o => ((M.opt (lstD o)).bind fun l => (f sl).bind fun a => M.opt (op l a)).bind fun o' => nx (sl.set i (.ow o'))) := by
  refine (ps_expr (pe_bm PySem.F.plainAttrs_list slot hty hm (pe_var hN hv hd hcd) (pa_cons he pa_nil hs) hbase hfew hline hs hplain) hsw).mimp fun D0 σ H ⟨ws, B0, sl, w, nx, bk, ct, e, h⟩ => ?_
  obtain ⟨d, hd, h2⟩ := nOwK_of h
  rw [bind_assoc] at h2
  obtain ⟨l, hl, h3⟩ := Ans.opt h2
  rw [bind_assoc] at h3
  clear h h2
  cases d <;> first | (cases hl; done) | skip
  cases hl
  obtain ⟨a, q1, ⟨vs, q2, q3, q4⟩, q5⟩ := e.ow i _ hd
  refine ⟨_, q1, .inl ⟨rfl, vs, .inl (.inl q2)⟩, ws, B0, sl, w, e, (Ans.bind h3).mono fun ws1 w1 b H1 l1 e1 h1 v hv => ?_⟩
  obtain ⟨o', ho, h1⟩ := Ans.opt h1
  obtain ⟨a', p1, ⟨us, p2, p3, p4⟩, p5⟩ := e1.ow i _ hd
  rw [q1] at p1
  cases p1
  refine hop p2 p4 hv ho fun o hO => ?_
  obtain ⟨l2, e2⟩ := e1.mutOwn hd q1 hO
  exact h1.nx _ _ _ _ _ l2 e2 rfl
theorem ms_app (i : Nat) (he : PEm X Wx e f) (hN : X.N[i]? = some x := by rfl) (hv : Vis X.env.scope x := by first | exact Or.inl rfl | exact Or.inr (Or.inl rfl) | exact Or.inr (Or.inr rfl)) (hd : (x == ("__debug__" : Str)) = false := by decide)
    (hcd : (x == ("__classdict__" : Str)) = false := by decide) (hbase : attributeBase (.Name x np) "append" X.env (eval (.Name x np) X.env) = eval (.Name x np) X.env := by rfl)
    (hfew : ((backTo cpos (starEach (e :: []) X.env)).all (fun x => !x.1) && (backToKw cpos (keywordEach [] X.env)).all (fun x => x.1.isSome)
      && decide ((e :: ([] : List Expr)).length + ([] : List Keyword).length + (if ([] : List Keyword).isEmpty then 0 else 1) < 30)) = true := by rfl)
    (hline : (apos.endLine == cpos.line) = true := by rfl) (hs : starEach (e :: []) X.env = (false, eval e X.env) :: starEach [] X.env := by rfl) (hplain : (backTo cpos (starEach [] X.env)).any (·.1) = false := by rfl)
    (hsw : swapsWith (.Call (.Attribute (.Name x np) "append" apos) [e] [] cpos) none pos.line X.env = pure false := by rfl) :
    PSm X Wx (.Expr (.Call (.Attribute (.Name x np) "append" apos) [e] [] cpos) pos) (fun nx _ _ sl => nOwK i sl fun o => (fApp o (f sl)).bind fun o' => nx (sl.set i (.ow o'))) :=
  ms_act (op := appL) i PySem.F.slot_list_append PySem.F.type_list_append mt_append (fun {ws B H a vs y l d o' Q} p2 p4 hv ho q => by
    unfold appL at ho
    split at ho
    · rename_i hz
      cases ho
      have hl := p4.length
      exact ⟨a, vs, y, rfl, rfl, p2, by omega, q _ ⟨_, rfl, by simp; omega, p4.append (.one hv)⟩⟩
    · cases ho) he hN hv hd hcd hbase hfew hline hs hplain hsw
theorem ms_ext (i : Nat) (he : PEm X Wx e f) (hN : X.N[i]? = some x := by rfl) (hv : Vis X.env.scope x := by first | exact Or.inl rfl | exact Or.inr (Or.inl rfl) | exact Or.inr (Or.inr rfl)) (hd : (x == ("__debug__" : Str)) = false := by decide)
    (hcd : (x == ("__classdict__" : Str)) = false := by decide) (hbase : attributeBase (.Name x np) "extend" X.env (eval (.Name x np) X.env) = eval (.Name x np) X.env := by rfl)
    (hfew : ((backTo cpos (starEach (e :: []) X.env)).all (fun x => !x.1) && (backToKw cpos (keywordEach [] X.env)).all (fun x => x.1.isSome)
      && decide ((e :: ([] : List Expr)).length + ([] : List Keyword).length + (if ([] : List Keyword).isEmpty then 0 else 1) < 30)) = true := by rfl)
    (hline : (apos.endLine == cpos.line) = true := by rfl) (hs : starEach (e :: []) X.env = (false, eval e X.env) :: starEach [] X.env := by rfl) (hplain : (backTo cpos (starEach [] X.env)).any (·.1) = false := by rfl)
    (hsw : swapsWith (.Call (.Attribute (.Name x np) "extend" apos) [e] [] cpos) none pos.line X.env = pure false := by rfl) :
    PSm X Wx (.Expr (.Call (.Attribute (.Name x np) "extend" apos) [e] [] cpos) pos) (fun nx _ _ sl => nOwK i sl fun o => (fExt o (f sl)).bind fun o' => nx (sl.set i (.ow o'))) :=
  ms_act (op := extL) i PySem.F.slot_list_extend PySem.F.type_list_extend mt_extend (fun {ws B H a vs y l d o' Q} p2 p4 hv ho q => by
    unfold extL at ho
    split at ho
    · split at ho
      · rename_i m hz
        cases ho
        have hl := p4.length
        cases hv with
        | lst zz nb hm rm =>
          have hl2 := rm.length
          exact ⟨a, _, vs, _, rfl, rfl, p2, hm, by omega, q _ ⟨_, rfl, by simp; omega, p4.append rm⟩⟩
      · cases ho
    · cases ho) he hN hv hd hcd hbase hfew hline hs hplain hsw

/-! ### x[i] = e -/
def setL (l : List D) (k v : D) : Option D := match k with
  | .int j => (ixN l.length j).map fun n => .lst (l.set n v)
  | _ => none
def fSetI (o : D) (k : M D) (v : D) : M D := (M.opt (lstD o)).bind fun l => k.bind fun j => M.opt (setL l j v)
theorem ms_sub {j : Expr} {tpos : Pos} {g h : Dn} (i : Nat) (hi : PEm X Wx j g) (he : PEm X Wx e h) (hN : X.N[i]? = some x := by rfl) (hv : Vis X.env.scope x := by first | exact Or.inl rfl | exact Or.inr (Or.inl rfl) | exact Or.inr (Or.inr rfl)) (hd : (x == ("__debug__" : Str)) = false := by decide)
    (hcd : (x == ("__classdict__" : Str)) = false := by decide)
    (ha : ∀ v, assign (.Subscript (.Name x np) j tpos) X.env v = (do
      let ov ← holding [v] (eval (.Name x np) X.env)
      let iv ← holding [v, ov] (eval j X.env)
      standAt tpos
      holding [v, ov, iv] (setItem ov iv v)
      release [v, ov, iv] []) := by intro _; rfl)
    (hs : swapsWithSole [.Subscript (.Name x np) j tpos] e pos.line X.env = pure false := by rfl) (hw : swappedStores [.Subscript (.Name x np) j tpos] e X.env = pure none := by rfl)
    (h1 : (assignEach [.Subscript (.Name x np) j tpos] X.env).map (·.2) = [assign (.Subscript (.Name x np) j tpos) X.env] := by rfl) :
    PSm X Wx (.Assign [.Subscript (.Name x np) j tpos] e pos) (fun nx _ _ sl => (h sl).bind fun v => nOwK i sl fun o => (fSetI o (g sl) v).bind fun o' => nx (sl.set i (.ow o'))) := by
  refine (ps_asg he (pg_sub (pe_var hN hv hd hcd) hi set_list ha) hs hw h1).mimp fun D0 σ H ⟨ws, B0, sl, w, nx, bk, ct, e, q⟩ => ?_
  refine ⟨ws, B0, sl, w, e, (Ans.bind q).mono fun ws1 w1 v H1 l1 e1 q1 u hu => ?_⟩
  obtain ⟨d, hd, q2⟩ := nOwK_of q1
  unfold fSetI at q2
  rw [bind_assoc] at q2
  obtain ⟨l, hl, q3⟩ := Ans.opt q2
  rw [bind_assoc] at q3
  clear q1 q2
  cases d <;> first | (cases hl; done) | skip
  cases hl
  obtain ⟨a, p1, _⟩ := e1.ow i _ hd
  refine ⟨_, p1, ws1, B0, sl, w1, e1, (Ans.bind q3).mono fun ws2 w2 k H2 l2 e2 q2 z hz => ?_⟩
  obtain ⟨o', ho, q2⟩ := Ans.opt q2
  obtain ⟨a', r1, ⟨us, r2, r3, r4⟩, r5⟩ := e2.ow i _ hd
  rw [p1] at r1
  cases r1
  cases k <;> first | (cases ho; done) | skip
  rename_i jj
  cases hz
  simp only [setL] at ho
  cases hn : ixN l.length jj with
  | none => rw [hn] at ho; cases ho
  | some n =>
    rw [hn] at ho
    cases ho
    have hlen := r4.length
    obtain ⟨l5, e5⟩ := e2.mutOwn (o := .lst (us.set n u)) (d' := .lst (l.set n v)) hd p1 ⟨_, rfl, by simpa using r3, r4.set (hu.le l2) n⟩
    exact ⟨a, us, jj, n, rfl, rfl, r2, by rw [hlen]; exact hn, q2.nx _ _ _ _ _ l5 e5 rfl⟩

/-! ### x += e -/
def iaddD : D → D → Option D
  | .int i, .int j => some (.int (i + j))
  | _, _ => none
def nVaK (i : Nat) (sl : Ls) (k : D → M D) : M D := match sl[i]? with
  | some (.va o) => k o
  | _ => M.bad
theorem nVaK_of {K : PySem.W.Frag} {mg : Str → Option Value} {ws : Wa} {B0 : Addr → Prop} {sl : Ls} {w : W} {σ : L2.St} {H : Hp} {nx bk ct : Kn} {D0 : Ends} {k : D → M D} (h : Ans K mg Wx ws B0 sl σ H (nVaK i sl k w) nx bk ct D0) : ∃ d, sl[i]? = some (.va d) ∧ Ans K mg Wx ws B0 sl σ H (k d w) nx bk ct D0 := by
  unfold nVaK at h
  cases q : sl[i]? with
  | none => rw [q] at h; exact absurd rfl h.nb
  | some z =>
    rw [q] at h
    cases z with
    | no => exact absurd rfl h.nb
    | ow d => exact absurd rfl h.nb
    | va d => exact ⟨d, rfl, h⟩
theorem ms_aug {pos' : Pos} (i : Nat) (hN : X.N.Nodup) (he : PEm X Wx e f) (hi : X.N[i]? = some x := by rfl) (hx : L2.Loc X.env.scope x := by first | exact Or.inl rfl | exact Or.inr rfl)
    (hf : X.fn x = true ∨ X.env.scope.names.lookup x = some .local := by first | exact .inl rfl | exact .inr rfl) :
    PSm X Wx (.AugAssign (.Name x pos') .Add e pos) (fun nx _ _ sl => nVaK i sl fun a => (fBin iaddD (M.pure a) (f sl)).bind fun z => nx (sl.set i (.va z))) := by
  refine (ps_aug hN hi hx he ip_add hf).mimp fun D0 σ H ⟨ws, B0, sl, w, nx, bk, ct, e, q⟩ => ?_
  obtain ⟨d, hd, q⟩ := nVaK_of q
  unfold fBin at q
  rw [pure_bind, bind_assoc] at q
  obtain ⟨v, h1, h2⟩ := e.va i d hd
  refine ⟨v, h1, ws, B0, sl, w, e, (Ans.bind q).mono fun ws1 w1 y H1 l1 e1 q1 u hu => ?_⟩
  obtain ⟨z, hz, q1⟩ := Ans.opt q1
  have hv1 := h2.le l1
  cases d <;> cases y <;> first
    | (cases hz; done)
    | (cases hv1; cases hu
       cases hz
       obtain ⟨l2, e2⟩ := e1.put (i := i) (v := .int _) (d := .int _) (.int _)
       exact ⟨_, _, rfl, rfl, q1.nx _ _ _ _ _ l2 e2 rfl⟩)
end

/-! ### a slot's object goes elsewhere, or is forgotten -/
def frz (i : Nat) (sl : Ls) : Ls := match sl[i]? with
  | some (.ow d) => sl.set i (.va d)
  | _ => sl
def setNo : List Nat → Ls → Ls
  | [], sl => sl
  | j :: js, sl => setNo js (sl.set j .no)
section
variable {K : PySem.W.Frag} {ws : Wa} {B0 : Addr → Prop} {sl : Ls} {w : W} {σ : L2.St} {H : Hp} {i : Nat}
theorem Env.drop1 (e : Env K ws B0 sl w σ H) : Le ws (Own sl σ) H ws (Own (sl.set i .no) σ) H ∧ Env K ws B0 (sl.set i .no) w σ H := by
  have hO : ∀ b, Own (sl.set i .no) σ b → Own sl σ b := fun b ⟨j, dj, hj, hb⟩ => by
    rcases get_set hj with ⟨_, z, _⟩ | ⟨_, z⟩
    · cases z
    · exact ⟨j, dj, z, hb⟩
  have l : Le ws (Own sl σ) H ws (Own (sl.set i .no) σ) H := ⟨ws.le_refl, fun _ h => .inl h, fun b h => .inl (hO b h), fun _ _ h _ _ => h, fun _ h => h⟩
  refine ⟨l, ⟨by rw [List.length_set]; exact e.len, e.wr, e.bx, e.dom, fun j dj hj => ?_, fun j dj hj => ?_, fun j k dj dk b hj hk hb hc => ?_⟩⟩
  · rcases get_set hj with ⟨rfl, z, _⟩ | ⟨_, z⟩
    · cases z
    · obtain ⟨u, q1, q2⟩ := e.va j dj z
      exact ⟨u, q1, q2.le l⟩
  · rcases get_set hj with ⟨rfl, z, _⟩ | ⟨_, z⟩
    · cases z
    · obtain ⟨b, q1, q2, q3⟩ := e.ow j dj z
      exact ⟨b, q1, q2.le l fun _ z => z, q3⟩
  · rcases get_set hj with ⟨rfl, z, _⟩ | ⟨_, z1⟩
    · cases z
    · rcases get_set hk with ⟨rfl, z, _⟩ | ⟨_, z2⟩
      · cases z
      · exact e.uq j k dj dk b z1 z2 hb hc
theorem Env.dropAll : ∀ (js : List Nat) {sl : Ls}, Env K ws B0 sl w σ H → Le ws (Own sl σ) H ws (Own (setNo js sl) σ) H ∧ Env K ws B0 (setNo js sl) w σ H
  | [], sl, e => ⟨Le.refl _ _ _, e⟩
  | j :: js, sl, e => by
    obtain ⟨l1, e1⟩ := e.drop1 (i := j)
    obtain ⟨l2, e2⟩ := Env.dropAll js e1
    exact ⟨l1.trans l2, e2⟩
theorem Env.frz (e : Env K ws B0 sl w σ H) : Le ws (Own sl σ) H ws (Own (Pm.frz i sl) σ) H ∧ Env K ws B0 (Pm.frz i sl) w σ H := by
  unfold Pm.frz
  split
  · rename_i d q
    obtain ⟨a, h1, h2, h3, h4⟩ := e.ow i d q
    have hO : ∀ b, Own (sl.set i (.va d)) σ b → Own sl σ b := fun b ⟨j, dj, hj, hb⟩ => by
      rcases get_set hj with ⟨_, z, _⟩ | ⟨_, z⟩
      · cases z
      · exact ⟨j, dj, z, hb⟩
    have l : Le ws (Own sl σ) H ws (Own (sl.set i (.va d)) σ) H := ⟨ws.le_refl, fun _ h => .inl h, fun b h => .inl (hO b h), fun _ _ h _ _ => h, fun _ h => h⟩
    have na : ¬ Bad ws B0 (sl.set i (.va d)) σ a := fun z => by
      rcases z with z | z | ⟨j, dj, hj, hb⟩
      · exact h3 z
      · exact h4 z
      · rcases get_set hj with ⟨_, z, _⟩ | ⟨n, z⟩
        · cases z
        · exact n (e.uq j i dj d a z q hb h1)
    have hD : DR K ws (Bad ws B0 (sl.set i (.va d)) σ) H (.ref a) d := by
      cases d <;> first
        | exact h2.elim
        | (obtain ⟨vs, q1, q2, q3⟩ := h2; exact .lst q2 na q1 (q3.le l))
        | (obtain ⟨vs, q1, q2, q3⟩ := h2; exact .dk na q1 q2 (q3.le l))
        | (obtain ⟨vs, q1, q2, q3⟩ := h2; exact .dt na q1 q2 (q3.le l))
    refine ⟨l, ⟨by rw [List.length_set]; exact e.len, e.wr, e.bx, e.dom, fun j dj hj => ?_, fun j dj hj => ?_, fun j k dj dk b hj hk hb hc => ?_⟩⟩
    · rcases get_set hj with ⟨rfl, z, _⟩ | ⟨_, z⟩
      · cases z; exact ⟨_, h1, hD⟩
      · obtain ⟨u, q1, q2⟩ := e.va j dj z
        exact ⟨u, q1, q2.le l⟩
    · rcases get_set hj with ⟨rfl, z, _⟩ | ⟨_, z⟩
      · cases z
      · obtain ⟨b, q1, q2, q3⟩ := e.ow j dj z
        exact ⟨b, q1, q2.le l fun _ z => z, q3⟩
    · rcases get_set hj with ⟨rfl, z, _⟩ | ⟨_, z1⟩
      · cases z
      · rcases get_set hk with ⟨rfl, z, _⟩ | ⟨_, z2⟩
        · cases z
        · exact e.uq j k dj dk b z1 z2 hb hc
  · exact ⟨Le.refl _ _ _, e⟩
end
theorem ms_frz {X : Cx} {Wx : WX} {st : List Stmt} {b : Sk} (i : Nat) (h : PSsm X Wx st b) : PSsm X Wx st (fun nx bk ct sl => b nx bk ct (frz i sl)) := by
  refine h.mimp fun D0 σ H ⟨ws, B0, sl, w, nx, bk, ct, e, h⟩ => ?_
  obtain ⟨l1, e1⟩ := e.frz (i := i)
  exact ⟨ws, B0, frz i sl, w, nx, bk, ct, e1, h.le l1⟩
theorem ms_no {X : Cx} {Wx : WX} {st : List Stmt} {b : Sk} (js : List Nat) (h : PSsm X Wx st b) : PSsm X Wx st (fun nx bk ct sl => b nx bk ct (setNo js sl)) := by
  refine h.mimp fun D0 σ H ⟨ws, B0, sl, w, nx, bk, ct, e, h⟩ => ?_
  obtain ⟨l1, e1⟩ := e.dropAll js
  exact ⟨ws, B0, setNo js sl, w, nx, bk, ct, e1, h.le l1⟩

/-! ### contracts -/
abbrev Mf := List D → M D
abbrev Post (ws : Wa) (H : Hp) (ws' : Wa) (H' : Hp) : Prop := Le ws (fun _ => False) H ws' (fun _ => False) H'
def spF (K : PySem.W.Frag) (mg : Str → Option Value) (n : Nat) (m : Mf) : Sp := fun vs H Q E => vs.length = n ∧ ∃ (ws : Wa) (B0 : Addr → Prop) (w : W) (ds : List D), WR K ws w H ∧ BX ws B0 H ∧ (∀ a, B0 a → H a ≠ none) ∧ DRs K ws (fun a => ws.has a ∨ B0 a) H vs ds ∧
  (match m ds w with
  | .ok d w' => ∀ v ws' H', Post ws H ws' H' → WR K ws' w' H' → DR K ws' (fun a => ws'.has a ∨ B0 a) H' v d → Q v H'
  | .ex c w' => ∀ ws' H' C, mg c = some (.ref C) → Post ws H ws' H' → WR K ws' w' H' → E (.ref C) none H'
  | .bad => False)
def fCall (m : Mf) (g : M (List D)) : M D := g.bind m
section
variable {K : PySem.W.Frag} {ws ws' : Wa} {B0 : Addr → Prop} {sl : Ls} {w w' : W} {σ : L2.St} {H H' : Hp}
theorem Env.bxs (e : Env K ws B0 sl w σ H) : BX ws (fun a => B0 a ∨ Own sl σ a) H := fun a z => by
  rcases z with z | ⟨i, d, h1, h2⟩
  · exact e.bx a z
  · obtain ⟨b, q1, q2, q3, q4⟩ := e.ow i d h1
    rw [h2] at q1
    cases q1
    exact ⟨q3, q2.nx⟩
theorem Post.le (p : Post ws H ws' H') (O : Addr → Prop) : Le ws O H ws' O H' := ⟨p.wle, p.new, fun _ h => .inl h, fun a o h1 h2 _ => p.keep a o h1 h2 (fun z => z), p.ex⟩
theorem Env.after (e : Env K ws B0 sl w σ H) (p : Post ws H ws' H') (hw : WR K ws' w' H') : Le ws (Own sl σ) H ws' (Own sl σ) H' ∧ Env K ws' B0 sl w' σ H' := by
  have l : Le ws (Own sl σ) H ws' (Own sl σ) H' := p.le (Own sl σ)
  refine ⟨l, ⟨e.len, hw, e.bx.keep e.dom p.new (fun a o hb z => p.keep a o z (e.bx a hb).1 (fun z => z)), fun a h z => e.dom a h (p.ex a z), fun j dj hj => ?_, fun j dj hj => ?_, e.uq⟩⟩
  · obtain ⟨u, h1, h2⟩ := e.va j dj hj
    exact ⟨u, h1, h2.le l⟩
  · obtain ⟨b, h1, h2, h3, h4⟩ := e.ow j dj hj
    refine ⟨b, h1, h2.le l fun u hu => p.keep b u hu h3 (fun z => z), fun z => ?_, h4⟩
    rcases p.new b z with q | q
    · exact h3 q
    · exact h2.there q
end
section
variable {X : Cx} {Wx : WX} {e : Expr} {es : List Expr} {pos p : Pos} {x : Str}
theorem fCall_go {K : PySem.W.Frag} {mg : Str → Option Value} {m : Mf} {g : An} {n : Nat} (hn : Cnt n g) (σ : L2.St) (H : Hp) (Q : VK) (h : tE K mg Wx (fun sl => fCall m (g sl)) σ H Q) : tCallS (spF K mg n m) (WE Wx) (tA K mg Wx g) σ H Q := by
  obtain ⟨ws, B0, sl, w, e, h⟩ := h
  refine ⟨ws, B0, sl, w, e, ?_⟩
  have h1 := runAt.bind h
  cases qg : g sl w with
  | bad => rw [qg] at h1; exact h1
  | ex c w1 => rw [qg] at h1; exact h1
  | ok ds w1 =>
    rw [qg] at h1
    intro ws1 H1 l1 e1 vs hvs
    have h2 : runAt K mg Wx ws1 B0 sl σ H1 (m ds w1) _ := h1 ws1 H1 l1 e1
    have hl := hvs.length
    refine ⟨by rw [hl]; exact hn _ _ _ _ qg, ws1, fun a => B0 a ∨ Own sl σ a, w1, ds, e1.wr, e1.bxs, fun a z => e1.bad a (.inr z), hvs, ?_⟩
    cases q : m ds w1 with
    | bad => rw [q] at h2; exact h2
    | ok d w' =>
      rw [q] at h2
      intro v ws' H' po hw hd
      obtain ⟨l3, e3⟩ := e1.after po hw
      exact h2 ws' H' l3 e3 v hd
    | ex c w' =>
      rw [q] at h2
      intro ws' H' C hC po hw
      obtain ⟨l3, e3⟩ := e1.after po hw
      exact h2 ws' H' C hC l3 e3
theorem m_call {m : Mf} {g : An} {k : Nat} {f : Addr} {fd : FuncData} {ps : List Str} (F : FnOk X.prog X.w X.K X.mg X.base (L2.CX X.prog X.w) k f fd ps (spF X.K X.mg ps.length m)) (hn : Cnt ps.length g) (hr : Room k X.A) (hm : X.mg x = some (.ref f)) (hk : PySem.W.keepIn X.K (.ref f) = true) (hb : Binds X.K fd ps []) (tk : Takes X Wx) (ha : PAm X Wx (e :: es) g)
    (hg : Gl X x := by rfl) (hdb : (x == ("__debug__" : Str)) = false := by decide) (he : starEach (e :: es) X.env = (false, eval e X.env) :: starEach es X.env := by rfl) (hpl : (backTo pos (starEach es X.env)).any (·.1) = false := by rfl) :
    PEm X Wx (.Call (.Name x p) (e :: es) [] pos) (fun sl => fCall m (g sl)) :=
  (pe_callS F hr hg hm hk hb (fun σ => passAt tk σ) ha hdb he hpl).mimp fun σ H Q h => fCall_go hn σ H Q h
end

/-! ### a def keeps its contract -/
def slStart (n : Nat) (ds : List D) : Ls := ds.map Sl.va ++ List.replicate (n - ds.length) .no
def runB (b : Sk) (n : Nat) (ds : List D) : M D := b (fun _ => M.pure .non) (fun _ => M.bad) (fun _ => M.bad) (slStart n ds)
theorem getElem?_start {α : Type} {xs : List α} {n i : Nat} {β : Type} {f : α → β} {z y : β} (h : (xs.map f ++ List.replicate n z)[i]? = some y) : (∃ x, xs[i]? = some x ∧ y = f x) ∨ y = z := by
  by_cases hi : i < xs.length
  · rw [List.getElem?_append_left (by simpa using hi), List.getElem?_map] at h
    cases e : xs[i]? with
    | none => rw [e] at h; cases h
    | some x => rw [e] at h; exact .inl ⟨x, rfl, (Option.some.inj h).symm⟩
  · rw [List.getElem?_append_right (by simpa using hi), List.getElem?_replicate] at h
    split at h
    · exact .inr (Option.some.inj h).symm
    · cases h
theorem env_start {K : PySem.W.Frag} {ws : Wa} {B0 : Addr → Prop} {w : W} {vs : List V} {ds : List D} {H : Hp} {N : List Str} (hw : WR K ws w H) (hbx : BX ws B0 H) (hd : ∀ a, B0 a → H a ≠ none) (r : DRs K ws (fun a => ws.has a ∨ B0 a) H vs ds) :
    (∀ a, ¬ Own (slStart N.length ds) (L2.start N vs) a) ∧ Env K ws B0 (slStart N.length ds) w (L2.start N vs) H := by
  have hl := r.length
  have noOw : ∀ (i : Nat) (d : D), (slStart N.length ds)[i]? ≠ some (.ow d) := fun i d h => by
    rcases getElem?_start h with ⟨x, _, z⟩ | z <;> cases z
  have nO : ∀ a, ¬ Own (slStart N.length ds) (L2.start N vs) a := fun a ⟨i, d, h, _⟩ => noOw i d h
  refine ⟨nO, ⟨by simp [L2.start, slStart, hl], hw, hbx, hd, fun i d h => ?_, fun i d h => absurd h (noOw i d), fun i j d e a h => absurd h (noOw i d)⟩⟩
  rcases getElem?_start h with ⟨x, hx, z⟩ | z
  · cases z
    obtain ⟨v, h1, h2⟩ := r.get hx
    have hi : i < vs.length := (List.getElem?_eq_some_iff.mp h1).1
    refine ⟨v, ?_, h2.keep ws.le_refl (fun _ _ e _ => e) fun a z => ?_⟩
    · unfold L2.start
      rw [List.getElem?_append_left (by simpa using hi), List.getElem?_map, h1]
      rfl
    · rcases z with z | z | z
      · exact .inl (.inl z)
      · exact .inl (.inr z)
      · exact absurd z (nO a)
  · cases z
section
variable {P : Program} {w : World} {K : PySem.W.Frag} {mg : Str → Option Value} {base : Heap}
theorem fn_ok {x qual : Str} {st : Stmt} {f : Addr} {fd : FuncData} {N ps : List Str} {k : Nat} {m : Mf} {b : Sk} (F : Fun K x qual st f fd) (Sc : FnScope N ps (defScope st))
    (hm : ∀ ds, ds.length = ps.length → runB b N.length ds = m ds)
    (hbody : ∀ (cdv : Value) (A : Around) (outer : List PySem.Env) (s : Shared) (H : Hp) (E : XK), Room k (A.deeper (envOfC qual (defScope st) s.heap.objs.size f cdv)) →
      PSsm (cxOf (L2.CX P w) P w K mg base N qual (defScope st) f cdv A outer s H E) (fun cls d _ H => E cls d H) (defBody st) b) : FnOk P w K mg base (L2.CX P w) (k + 1) f fd ps (spF K mg ps.length m) := by
  refine F.okX Sc (fun vs H Q E h => h.1) fun cdv A outer s H vs Q E hr h => ⟨_, hbody cdv A outer s H E hr, ?_⟩
  obtain ⟨hl, ws, B0, w1, ds, hw, hwd, hd, r, h⟩ := h
  obtain ⟨nO, e⟩ := env_start (N := N) hw hwd hd r
  rw [← hm ds (by rw [← r.length]; exact hl)] at h
  have po : ∀ {σ' : L2.St} {ws' : Wa} {sl' : Ls} {H' : Hp}, Le ws (Own (slStart N.length ds) (L2.start N vs)) H ws' (Own sl' σ') H' → Post ws H ws' H' := fun l =>
    ⟨l.wle, l.new, fun _ z => z.elim, fun a o h1 h2 _ => l.keep a o h1 h2 (nO a), l.ex⟩
  refine ⟨ws, B0, _, w1, fun _ => M.pure .non, fun _ => M.bad, fun _ => M.bad, e, ⟨fun z => ?_, ?_, ?_, ?_, ?_, ?_⟩⟩
  · have z : runB b N.length ds w1 = .bad := z
    rw [z] at h
    exact h
  · intro σ' ws' sl' w' H' l e' q
    have q : runB b N.length ds w1 = .ok .non w' := q.symm
    rw [q] at h
    exact h .non ws' H' (po l) e'.wr .non
  · intro σ' ws' sl' w' H' l e' q
    have q : runB b N.length ds w1 = .bad := q.symm
    rw [q] at h
    exact h.elim
  · intro σ' ws' sl' w' H' l e' q
    have q : runB b N.length ds w1 = .bad := q.symm
    rw [q] at h
    exact h.elim
  · intro d w' q σ' ws' sl' H' v l e' hv
    have q : runB b N.length ds w1 = .ok d w' := q
    rw [q] at h
    exact h v ws' H' (po l) e'.wr hv
  · intro c w' q σ' ws' sl' H' C hC l e'
    have q : runB b N.length ds w1 = .ex c w' := q
    rw [q] at h
    exact h ws' H' C hC (po l) e'.wr
end

/-! ### raise X() -/
section
variable {X : Cx} {Wx : WX} {pos p pos' : Pos} {x : Str} {C : Addr} {bmB : List Value} {B newId initId : String}
theorem pmk_own0 (F : ExcBaseFacts B newId initId bmB) (q : PySem.W.excIn X.K C bmB newId = true) (gC : X.mg x = some (.ref C)) (kC : PySem.W.keepIn X.K (.ref C) = true) (r : Raises X (.ref C)) (hg : Gl X x)
    (hdb : (x == ("__debug__" : Str)) = false := by decide) : PMk X (.Call (.Name x p) [] [] pos) (fun _ H Q => Q (.ref C) none H) := by
  intro pins s σ H Q I h
  refine wpAny_Call_Name_kw (ld_glob I hg gC ?_ hdb)
  refine PySem.W.callWith_K0 I.kIn kC ?_
  obtain ⟨bm, N, nm, qn, bs, hdct, sn, sub, ab, col, dd, k0, k1, k2, k3, k5, mN, hC, hN, hni, T⟩ := exc_obj I.kIn q
  refine wpAny_call_exc_subT F T hC hN hni (fun h' e hm => ?_) (by show 0 ≤ sizeLine; exact Nat.zero_le _)
  exact mk_of I hm r h (I.hok.gone hm.new)
theorem ms_raise (F : ExcBaseFacts B newId initId bmB) (q : PySem.W.excIn X.K C bmB newId = true) (gC : X.mg x = some (.ref C)) (kC : PySem.W.keepIn X.K (.ref C) = true) (r : Raises X (.ref C)) (tk : Takes X Wx) (hc : X.calm = true := by rfl) (hg : Gl X x := by rfl)
    (hdb : (x == ("__debug__" : Str)) = false := by decide) : PSm X Wx (.Raise (some (.Call (.Name x p) [] [] pos)) none pos') (fun _ _ _ _ => M.raise x) := by
  refine (ps_raise hc tk (pmk_own0 F q gC kC r hg hdb)).mimp fun D0 σ H ⟨ws, B0, sl, w, nx, bk, ct, e, h⟩ => ?_
  exact h.ex x w rfl σ ws sl H C gC (Le.refl _ _ _) e
end
end Pm
namespace Pm
open PySem PySem.Spec PyProof.Rows L2

/-! ### what is walked -/
def JOk (K : PySem.W.Frag) (ws : Wa) (B : Addr → Prop) (J : It) (items : List D) (H : Hp) : Prop :=
  ∀ i, (∀ d, items[i]? = some d → J.go i H ∧ ∀ x H', J.yld i H x H' → Grow H H' ∧ DR K ws B H' x d) ∧ (items.length ≤ i → J.stop i H)
def tIm (K : PySem.W.Frag) (mg : Str → Option Value) (Wx : WX) (f : An) : TI := fun σ H R => ∃ ws B0 sl w, Env K ws B0 sl w σ H ∧ runAt K mg Wx ws B0 sl σ H (f sl w) fun ws1 _ items H1 =>
  ∀ J, items.length ≤ sizeLine → (∀ ws' (B' : Addr → Prop) H', ws1.le ws' → (∀ a o, H1 a = some o → ¬ Bad ws1 B0 sl σ a → H' a = some o) → (∀ a, B' a → Bad ws1 B0 sl σ a ∨ H1 a = none) → (∀ a, B' a → H' a ≠ none) → JOk K ws' B' J items H') → R J H1
abbrev PIm (X : Cx) (Wx : WX) (tg iter : Expr) (f : An) : Prop := PI X tg iter (tIm X.K X.mg Wx f)
theorem _root_.L2.PI.mimp {X : Cx} {tg e : Expr} {t t' : TI} (h : PI X tg e t) (f : ∀ σ H Q, t' σ H Q → t σ H Q) : PI X tg e t' := ⟨fun pins s σ H Q I q => h.run pins s σ H Q I (f _ _ _ q)⟩
theorem _root_.L2.PI.orm {X : Cx} {tg e : Expr} {t t' : TI} (h : PI X tg e t) (h' : PI X tg e t') : PI X tg e (fun σ H R => t σ H R ∨ t' σ H R) := ⟨fun pins s σ H Q I q => q.elim (h.run pins s σ H Q I) (h'.run pins s σ H Q I)⟩
/-- the items of a list, a tuple, a text -/
def itemsD : D → Option (List D)
  | .tup l => some l
  | .lst l => some l
  | .scr l => if l.length ≤ sizeLine then some (l.map D.int) else none
  | .str x => if x.cps.toList.length ≤ sizeLine then some (x.cps.toList.map fun c => .str ⟨#[c]⟩) else none
  | _ => none
def fItems (x : M D) : M (List D) := x.bind fun d => M.opt (itemsD d)
section
variable {K : PySem.W.Frag} {ws ws' : Wa} {B0 B' : Addr → Prop} {sl sl' : Ls} {σ σ' : L2.St} {H H' : Hp}
theorem bad_more (hB : ∀ a, B' a → B0 a ∨ H a = none) (l : Le ws (Own sl σ) H ws' (Own sl' σ') H') : ∀ a, Bad ws' B' sl' σ' a → Bad ws B0 sl σ a ∨ H a = none := fun a h => by
  rcases h with h | h | h
  · exact (l.new a h).imp .inl id
  · exact (hB a h).imp (fun z => .inr (.inl z)) id
  · exact (l.own a h).imp (fun z => .inr (.inr z)) id
theorem DR.more {v : V} {d : D} (hB : ∀ a, B' a → B0 a ∨ H a = none) (l : Le ws (Own sl σ) H ws' (Own sl' σ') H') (h : DR K ws (Bad ws B0 sl σ) H v d) : DR K ws' (Bad ws' B' sl' σ') H' v d := h.keep l.wle l.kp (bad_more hB l)
theorem DRs.more {v : List V} {d : List D} (hB : ∀ a, B' a → B0 a ∨ H a = none) (l : Le ws (Own sl σ) H ws' (Own sl' σ') H') (h : DRs K ws (Bad ws B0 sl σ) H v d) : DRs K ws' (Bad ws' B' sl' σ') H' v d := h.keep l.wle l.kp (bad_more hB l)
theorem jok_tup {B : Addr → Prop} {a : Addr} {vs : List V} {l : List D} (h : SqT K H a vs) (r : DRs K ws B H vs l) : JOk K ws B (Itt K a) l H := fun i => by
  refine ⟨fun d hd => ?_, fun hi => ⟨vs, h, by rw [r.length]; exact hi⟩⟩
  obtain ⟨v, h1, h2⟩ := r.get hd
  refine ⟨⟨vs, v, h, h1⟩, fun x H' hy => ?_⟩
  obtain ⟨rfl, hy⟩ := hy
  have := hy vs h
  rw [h1] at this
  cases this
  exact ⟨Grow.refl _, h2⟩
theorem jok_lst {B : Addr → Prop} {a : Addr} {vs : List V} {l : List D} (h : SqL K H a vs) (r : DRs K ws B H vs l) : JOk K ws B (Itl K a) l H := fun i => by
  refine ⟨fun d hd => ?_, fun hi => ⟨vs, h, by rw [r.length]; exact hi⟩⟩
  obtain ⟨v, h1, h2⟩ := r.get hd
  refine ⟨⟨vs, v, h, h1⟩, fun x H' hy => ?_⟩
  obtain ⟨rfl, hy⟩ := hy
  have := hy vs h
  rw [h1] at this
  cases this
  exact ⟨Grow.refl _, h2⟩
theorem jok_str {B : Addr → Prop} (x : Str) : JOk K ws B (Its x) (x.cps.toList.map fun c => .str ⟨#[c]⟩) H := fun i => by
  refine ⟨fun d hd => ?_, fun hi => (show x.cps.size ≤ i by simpa using hi)⟩
  rw [List.getElem?_map] at hd
  cases q : x.cps.toList[i]? with
  | none => rw [q] at hd; cases hd
  | some c =>
    rw [q] at hd
    cases hd
    have hi : i < x.cps.size := by have := (List.getElem?_eq_some_iff.mp q).1; simpa using this
    refine ⟨hi, fun y H' hy => ?_⟩
    obtain ⟨rfl, c', h1, rfl⟩ := hy
    have e : x.cps[i]? = some c := by rw [← Array.getElem?_toList]; exact q
    rw [e] at h1
    cases h1
    exact ⟨Grow.refl _, .str _⟩
theorem jok_rng {B : Addr → Prop} (lo c : Int) (n : Nat) : JOk K ws B (Itc lo c n) ((List.range n).map fun k => .int (lo + (k : Nat) * c)) H := fun i => by
  refine ⟨fun d hd => ?_, fun hi => (show n ≤ i by simpa using hi)⟩
  rw [List.getElem?_map] at hd
  cases q : (List.range n)[i]? with
  | none => rw [q] at hd; cases hd
  | some k =>
    rw [q] at hd
    cases hd
    obtain ⟨h1, h2⟩ := List.getElem?_eq_some_iff.mp q
    simp at h1 h2
    subst h2
    refine ⟨h1, fun y H' hy => ?_⟩
    obtain ⟨rfl, rfl⟩ := hy
    exact ⟨Grow.refl _, .int _⟩
end
section
variable {X : Cx} {Wx : WX} {tg e a b c : Expr} {pos p : Pos}
/-- for x in e: e a list, a tuple, a text -/
theorem mi_of {f : Dn} (he : PEm X Wx e f) : PIm X Wx tg e (fun sl => fItems (f sl)) := by
  refine (((pi_list he).orm (pi_tup he)).orm (pi_str he)).mimp fun σ H R ⟨ws, B0, sl, w, e, h⟩ => ?_
  have h : runAt X.K X.mg Wx ws B0 sl σ H (M.bind (f sl) (fun d => M.opt (itemsD d)) w) _ := h
  unfold M.bind at h
  cases q : f sl w with
  | bad => rw [q] at h; exact h.elim
  | ex c w1 =>
    refine .inl (.inl ⟨ws, B0, sl, w, e, ?_⟩)
    rw [q] at h ⊢
    exact h
  | ok d w1 =>
    rw [q] at h
    simp only at h
    obtain ⟨items, hi, h⟩ := runAt.opt h
    have go : ∀ (k : Wa → W → D → Hp → Prop), (∀ ws1 H1, Le ws (Own sl σ) H ws1 (Own sl σ) H1 → Env X.K ws1 B0 sl w1 σ H1 → k ws1 w1 d H1) → runAt X.K X.mg Wx ws B0 sl σ H (f sl w) k := fun k hk => by
      rw [q]
      exact fun ws1 H1 l1 e1 => hk ws1 H1 l1 e1
    cases d with
    | tup l =>
      cases hi
      refine .inl (.inr ⟨ws, B0, sl, w, e, go _ fun ws1 H1 l1 e1 v hv => ?_⟩)
      cases hv with
      | tup z t r => exact ⟨_, rfl, ⟨_, t.sq⟩, h ws1 H1 l1 e1 _ z fun ws' B' H' hw hk hB hd => jok_tup (Tp.keep hk hB t).sq (r.keep hw hk hB)⟩
    | lst l =>
      cases hi
      refine .inl (.inl ⟨ws, B0, sl, w, e, go _ fun ws1 H1 l1 e1 v hv => ?_⟩)
      cases hv with
      | lst z n t r => exact ⟨_, rfl, ⟨_, .inl (.inl t)⟩, h ws1 H1 l1 e1 _ z fun ws' B' H' hw hk hB hd => jok_lst (.inl (.inl (hk _ _ t n))) (r.keep hw hk hB)⟩
    | scr l =>
      simp only [itemsD] at hi
      split at hi
      · rename_i hz
        cases hi
        refine .inl (.inl ⟨ws, B0, sl, w, e, go _ fun ws1 H1 l1 e1 v hv => ?_⟩)
        cases hv with
        | scr _ t => exact ⟨_, rfl, ⟨_, t.sq⟩, h ws1 H1 l1 e1 _ (by rw [List.length_map]; exact hz) fun ws' B' H' hw hk hB hd => jok_lst (Lp.keep hk hB t).sq (DRs.ints _)⟩
      · cases hi
    | str x =>
      simp only [itemsD] at hi
      split at hi
      · rename_i hz
        cases hi
        refine .inr ⟨ws, B0, sl, w, e, go _ fun ws1 H1 l1 e1 v hv => ?_⟩
        cases hv
        exact ⟨x, rfl, h ws1 H1 l1 e1 _ (by rw [List.length_map]; exact hz) fun ws' B' H' hw hk hB hd => jok_str x⟩
      · cases hi
    | _ => cases hi
/-! ### range -/
def rngA (j : Int) : Option (List D) := if j.toNat ≤ sizeLine ∧ -(2 ^ 62) ≤ j then some ((List.range j.toNat).map fun (k : Nat) => .int k) else none
def rngB (i j : Int) : Option (List D) := if (j - i).toNat ≤ sizeLine ∧ -(2 ^ 62) ≤ i ∧ i < 2 ^ 62 ∧ -(2 ^ 62) ≤ j ∧ j < 2 ^ 62 then some ((List.range (j - i).toNat).map fun (k : Nat) => .int (i + k)) else none
def rngC (i j c : Int) : Option (List D) := if c ≠ 0 ∧ c.natAbs < 1073741824 ∧ Builtin.Range.small i j c = true ∧ (Builtin.Range.rangeSize i j c).toNat ≤ sizeLine then some ((List.range (Builtin.Range.rangeSize i j c).toNat).map fun (k : Nat) => .int (i + k * c)) else none
def rngF : List D → Option (List D)
  | [.int j] => rngA j
  | [.int i, .int j] => rngB i j
  | [.int i, .int j, .int c] => rngC i j c
  | _ => none
def fRng (g : M (List D)) : M (List D) := g.bind fun l => M.opt (rngF l)
theorem itr_itc (lo : Int) (n : Nat) : Itr lo n = Itc lo 1 n := by
  unfold Itr Itc
  congr 1
  funext i H x H'
  simp
theorem mi_range1 {g : An} (hm : X.mg "range" = none) (ha : PAm X Wx [a] g) (hn : Cnt 1 g) (hg : Gl X "range" := by rfl) (hs : starEach [a] X.env = [(false, eval a X.env)] := by rfl) : PIm X Wx tg (.Call (.Name "range" p) [a] [] pos) (fun sl => fRng (g sl)) := by
  refine (pi_range1 hg hm ha hs).mimp fun σ H R ⟨ws, B0, sl, w, e, h⟩ => ?_
  refine ⟨ws, B0, sl, w, e, ?_⟩
  have h1 := runAt.bind h
  cases qg : g sl w with
  | bad => rw [qg] at h1; exact h1
  | ex c w1 => rw [qg] at h1; exact h1
  | ok ds w1 =>
    rw [qg] at h1
    intro ws1 H1 l1 e1 vs hv
    obtain ⟨items, hi, h2⟩ := runAt.opt (h1 ws1 H1 l1 e1)
    have hl := hn _ _ _ _ qg
    match ds, hl, hi, hv with
    | [.int j], _, hi, .cons (.int _) .nil =>
      have hi : rngA j = some items := hi
      unfold rngA at hi
      split at hi
      · rename_i hc
        cases hi
        have hz := hc.1
        refine ⟨j, rfl, hc.2, by have : sizeLine < 2 ^ 62 := by decide
                                 omega, ?_⟩
        rw [itr_itc]
        refine runAt.here e1 h2 _ (by simpa using hz) fun ws' B' H' hw hk hB hd => ?_
        have := jok_rng (K := X.K) (ws := ws') (B := B') (H := H') 0 1 j.toNat
        simpa using this
      · cases hi
theorem mi_range2 {g : An} (hm : X.mg "range" = none) (ha : PAm X Wx [a, b] g) (hn : Cnt 2 g) (hg : Gl X "range" := by rfl) (hs : starEach [a, b] X.env = [(false, eval a X.env), (false, eval b X.env)] := by rfl) (hs2 : starEach [b] X.env = [(false, eval b X.env)] := by rfl) : PIm X Wx tg (.Call (.Name "range" p) [a, b] [] pos) (fun sl => fRng (g sl)) := by
  refine (pi_range2 hg hm ha hs hs2).mimp fun σ H R ⟨ws, B0, sl, w, e, h⟩ => ?_
  refine ⟨ws, B0, sl, w, e, ?_⟩
  have h1 := runAt.bind h
  cases qg : g sl w with
  | bad => rw [qg] at h1; exact h1
  | ex c w1 => rw [qg] at h1; exact h1
  | ok ds w1 =>
    rw [qg] at h1
    intro ws1 H1 l1 e1 vs hv
    obtain ⟨items, hi, h2⟩ := runAt.opt (h1 ws1 H1 l1 e1)
    have hl := hn _ _ _ _ qg
    match ds, hl, hi, hv with
    | [x, y], _, hi, .cons hx (.cons hy .nil) =>
      cases x <;> cases y <;> first | (cases hi; done) | skip
      rename_i i j _
      cases hx; cases hy
      have hi : rngB i j = some items := hi
      unfold rngB at hi
      split at hi
      · rename_i hc
        cases hi
        have hz := hc.1
        refine ⟨i, j, rfl, hc.2, ?_⟩
        rw [itr_itc]
        refine runAt.here e1 h2 _ (by simpa using hz) fun ws' B' H' hw hk hB hd => ?_
        have := jok_rng (K := X.K) (ws := ws') (B := B') (H := H') i 1 (j - i).toNat
        simpa using this
      · cases hi
theorem mi_range3 {g : An} (hm : X.mg "range" = none) (ha : PAm X Wx [a, b, c] g) (hn : Cnt 3 g) (hg : Gl X "range" := by rfl) (hs : starEach [a, b, c] X.env = (false, eval a X.env) :: starEach [b, c] X.env := by rfl) (hpl : (backTo pos (starEach [b, c] X.env)).any (·.1) = false := by rfl) : PIm X Wx tg (.Call (.Name "range" p) [a, b, c] [] pos) (fun sl => fRng (g sl)) := by
  refine (pi_range3 hg hm ha hs hpl).mimp fun σ H R ⟨ws, B0, sl, w, e, h⟩ => ?_
  refine ⟨ws, B0, sl, w, e, ?_⟩
  have h1 := runAt.bind h
  cases qg : g sl w with
  | bad => rw [qg] at h1; exact h1
  | ex c w1 => rw [qg] at h1; exact h1
  | ok ds w1 =>
    rw [qg] at h1
    intro ws1 H1 l1 e1 vs hv
    obtain ⟨items, hi, h2⟩ := runAt.opt (h1 ws1 H1 l1 e1)
    have hl := hn _ _ _ _ qg
    match ds, hl, hi, hv with
    | [x, y, z], _, hi, .cons hx (.cons hy (.cons hz .nil)) =>
      cases x <;> cases y <;> cases z <;> first | (cases hi; done) | skip
      rename_i i j c _
      cases hx; cases hy; cases hz
      have hi : rngC i j c = some items := hi
      unfold rngC at hi
      split at hi
      · rename_i hc
        cases hi
        refine ⟨i, j, c, _, rfl, ⟨hc.1, hc.2.1, hc.2.2.1, rangeSize_toNat i j c⟩, ?_⟩
        exact runAt.here e1 h2 _ (by simpa using hc.2.2.2) fun ws' B' H' hw hk hB hd => jok_rng i c _
      · cases hi
end

/-! ### zip -/
def zipL : List D → List D → List D
  | x :: xs, y :: ys => .tup [x, y] :: zipL xs ys
  | _, _ => []
theorem zipL_eq : ∀ (xs ys : List D), zipL xs ys = (xs.zip ys).map fun p => .tup [p.1, p.2]
  | [], _ => rfl
  | _ :: _, [] => rfl
  | x :: xs, y :: ys => by simp [zipL, zipL_eq xs ys]
theorem zipL_get {xs ys : List D} {i : Nat} {d : D} (h : (zipL xs ys)[i]? = some d) : ∃ x y, xs[i]? = some x ∧ ys[i]? = some y ∧ d = .tup [x, y] := by
  induction xs generalizing ys i with
  | nil => simp [zipL] at h
  | cons x xs ih =>
    cases ys with
    | nil => simp [zipL] at h
    | cons y ys =>
      cases i with
      | zero => simp [zipL] at h; exact ⟨x, y, rfl, rfl, h.symm⟩
      | succ i => simpa using ih (by simpa [zipL] using h)
theorem zipL_len (xs ys : List D) : (zipL xs ys).length = min xs.length ys.length := by rw [zipL_eq, List.length_map, List.length_zip]
/-- two lists, or two tuples -/
def zipD : D → D → Option (List D)
  | .tup a, .tup b => some (zipL a b)
  | .lst a, .lst b => some (zipL a b)
  | .lst a, .scr b => some (zipL a (b.map D.int))
  | .scr a, .lst b => some (zipL (a.map D.int) b)
  | _, _ => none
section
variable {K : PySem.W.Frag} {ws : Wa} {B : Addr → Prop} {H : Hp}
theorem dr_pair {T : Addr} {x y : V} {dx dy : D} (hT : H T = none) (hb : ∀ a, B a → H a ≠ none) (hx : DR K ws B H x dx) (hy : DR K ws B H y dy) : DR K ws B (upd H T (.tup [x, y])) (.ref T) (.tup [dx, dy]) :=
  .tup (by show 2 ≤ sizeLine; decide) (.inl ⟨fun z => hb T z hT, .inl upd_same⟩) (.cons (hx.grow (Grow.new hT)) (.cons (hy.grow (Grow.new hT)) .nil))
theorem jok_zipT {a b : Addr} {xs ys : List V} {l m : List D} (hb : ∀ a, B a → H a ≠ none) (h : SqT K H a xs) (r : DRs K ws B H xs l) (h' : SqT K H b ys) (r' : DRs K ws B H ys m) : JOk K ws B (RZ.ItzT K a b) (zipL l m) H := fun i => by
  refine ⟨fun d hd => ?_, fun hi => ⟨xs, ys, h, h', ?_⟩⟩
  · obtain ⟨x, y, h1, h2, rfl⟩ := zipL_get hd
    obtain ⟨v, q1, q2⟩ := r.get h1
    obtain ⟨u, q3, q4⟩ := r'.get h2
    refine ⟨⟨xs, ys, v, u, h, h', q1, q3⟩, fun z H' hy => ?_⟩
    obtain ⟨T, x', y', rfl, hT, rfl, f1, f2⟩ := hy
    have e1 := f1 xs h
    have e2 := f2 ys h'
    rw [q1] at e1
    rw [q3] at e2
    cases e1
    cases e2
    exact ⟨Grow.new hT, dr_pair hT hb q2 q4⟩
  · rw [zipL_len] at hi
    rw [r.length, r'.length]
    omega
theorem jok_zipL {a b : Addr} {xs ys : List V} {l m : List D} (hb : ∀ a, B a → H a ≠ none) (h : SqL K H a xs) (r : DRs K ws B H xs l) (h' : SqL K H b ys) (r' : DRs K ws B H ys m) : JOk K ws B (Itz K a b) (zipL l m) H := fun i => by
  refine ⟨fun d hd => ?_, fun hi => ⟨xs, ys, h, h', ?_⟩⟩
  · obtain ⟨x, y, h1, h2, rfl⟩ := zipL_get hd
    obtain ⟨v, q1, q2⟩ := r.get h1
    obtain ⟨u, q3, q4⟩ := r'.get h2
    refine ⟨⟨xs, ys, v, u, h, h', q1, q3⟩, fun z H' hy => ?_⟩
    obtain ⟨T, x', y', rfl, hT, rfl, f1, f2⟩ := hy
    have e1 := f1 xs h
    have e2 := f2 ys h'
    rw [q1] at e1
    rw [q3] at e2
    cases e1
    cases e2
    exact ⟨Grow.new hT, dr_pair hT hb q2 q4⟩
  · rw [zipL_len] at hi
    rw [r.length, r'.length]
    omega
/-- a list's value: its items -/
def lstOf : D → Option (List D)
  | .lst l => some l
  | .scr l => some (l.map D.int)
  | _ => none
theorem dr_lst {v : V} {d : D} {l : List D} (h : DR K ws B H v d) (hl : lstOf d = some l) : ∃ a vs, v = .ref a ∧ Lp K B H a vs ∧ DRs K ws B H vs l := by
  cases h with
  | lst _ n h r => cases hl; exact ⟨_, _, rfl, .inl ⟨n, .inl h⟩, r⟩
  | scr ns h => cases hl; exact ⟨_, _, rfl, h, DRs.ints ns⟩
  | _ => cases hl
theorem zipD_cases {x y : D} {l : List D} (h : zipD x y = some l) : (∃ a b, x = .tup a ∧ y = .tup b ∧ l = zipL a b) ∨ ∃ a b, lstOf x = some a ∧ lstOf y = some b ∧ l = zipL a b := by
  unfold zipD at h
  split at h <;> cases h
  · exact .inl ⟨_, _, rfl, rfl, rfl⟩
  · exact .inr ⟨_, _, rfl, rfl, rfl⟩
  · exact .inr ⟨_, _, rfl, rfl, rfl⟩
  · exact .inr ⟨_, _, rfl, rfl, rfl⟩
end
def fZip (g : M (List D)) : M (List D) := g.bind fun l => match l with
  | [x, y] => M.opt (zipD x y)
  | _ => M.bad
section
variable {X : Cx} {Wx : WX} {a b c : Expr} {pos p tpos : Pos} {elts : List Expr} {kk : Nat}
theorem mi_zip {g : An} (hm : X.mg "zip" = none) (ha : PAm X Wx [a, b] g) (hg : Gl X "zip" := by rfl)
    (hs : starEach [a, b] X.env = (false, eval a X.env) :: starEach [b] X.env := by rfl) (hpl : (backTo pos (starEach [b] X.env)).any (·.1) = false := by rfl) : PIm X Wx (.Tuple elts kk tpos) (.Call (.Name "zip" p) [a, b] [] pos) (fun sl => fZip (g sl)) := by
  refine (RZ.pi_zipA hg hm ha hs hpl).mimp fun σ H R ⟨ws, B0, sl, w, e, h⟩ => ?_
  refine ⟨ws, B0, sl, w, e, (runAt.bind h).mono fun ws1 w1 ds H1 l1 e1 h1 vs hv => ?_⟩
  match ds, h1, hv with
  | [x, y], h2, .cons rx (.cons ry .nil) =>
    obtain ⟨l, q, h2⟩ := runAt.opt h2
    rcases zipD_cases q with ⟨xs, ys, rfl, rfl, rfl⟩ | ⟨xs, ys, hx, hy, rfl⟩
    · cases rx with
      | tup z1 t1 r1 =>
        cases ry with
        | tup z2 t2 r2 =>
          exact ⟨_, _, _, _, rfl, .inr ⟨t1.sq, t2.sq, runAt.here e1 h2 _ (by rw [zipL_len]; omega) fun ws' B' H' hw hk hB hd => jok_zipT hd (Tp.keep hk hB t1).sq (r1.keep hw hk hB) (Tp.keep hk hB t2).sq (r2.keep hw hk hB)⟩⟩
    · obtain ⟨a1, vs1, rfl, t1, r1⟩ := dr_lst rx hx
      obtain ⟨a2, vs2, rfl, t2, r2⟩ := dr_lst ry hy
      have hz : (zipL xs ys).length ≤ sizeLine := by
        rw [zipL_len]
        cases rx with
        | lst z _ _ _ => cases hx; omega
        | scr _ _ =>
          cases ry with
          | lst z _ _ _ => cases hy; omega
          | scr _ _ => cases q
          | _ => cases hy
        | _ => cases hx
      exact ⟨_, _, _, _, rfl, .inl ⟨t1.sq, t2.sq, runAt.here e1 h2 _ hz fun ws' B' H' hw hk hB hd => jok_zipL hd (Lp.keep hk hB t1).sq (r1.keep hw hk hB) (Lp.keep hk hB t2).sq (r2.keep hw hk hB)⟩⟩
end
end Pm
namespace Pm
open PySem PySem.Spec PyProof.Rows L2

/-! ### targets -/
abbrev Gk := (β : Type) → D → (Ls → M β) → Ls → M β
abbrev Gks := (β : Type) → List D → (Ls → M β) → Ls → M β
/-- all slots but those at ts stand -/
def Out (ts : List Nat) (σ σ' : L2.St) : Prop := σ'.length = σ.length ∧ ∀ j, j ∉ ts → σ'[j]? = σ[j]?
def OutS (ts : List Nat) (sl sl' : Ls) : Prop := ∀ j, j ∉ ts → sl'[j]? = sl[j]?
def tGm (K : PySem.W.Frag) (ts : List Nat) (p : Gk) : TG := fun v σ H Q => ∃ ws B0 sl w d, ∃ (β : Type) (nx : Ls → M β), Env K ws B0 sl w σ H ∧ DR K ws (Bad ws B0 sl σ) H v d ∧ p β d nx sl w ≠ .bad ∧
  ∀ σ' ws' sl' w' H', Out ts σ σ' → OutS ts sl sl' → Le ws (Own sl σ) H ws' (Own sl' σ') H' → Env K ws' B0 sl' w' σ' H' → nx sl' w' = p β d nx sl w → Q σ' H'
def tGsm (K : PySem.W.Frag) (ts : List Nat) (p : Gks) : TGs := fun vs σ H Q => ∃ ws B0 sl w ds, ∃ (β : Type) (nx : Ls → M β), Env K ws B0 sl w σ H ∧ DRs K ws (Bad ws B0 sl σ) H vs ds ∧ p β ds nx sl w ≠ .bad ∧
  ∀ σ' ws' sl' w' H', Out ts σ σ' → OutS ts sl sl' → Le ws (Own sl σ) H ws' (Own sl' σ') H' → Env K ws' B0 sl' w' σ' H' → nx sl' w' = p β ds nx sl w → Q σ' H'
abbrev PGm (X : Cx) (tg : Expr) (ts : List Nat) (p : Gk) : Prop := PG X tg (tGm X.K ts p)
abbrev PGsm (X : Cx) (tg : List Expr) (ts : List Nat) (p : Gks) : Prop := PGs X tg (tGsm X.K ts p)
theorem _root_.L2.PG.mimp {X : Cx} {tg : Expr} {t t' : TG} (h : PG X tg t) (f : ∀ v σ H Q, t' v σ H Q → t v σ H Q) : PG X tg t' := ⟨fun pins s σ H v u Q I r q => h.run pins s σ H v u Q I r (f _ _ _ _ q)⟩
theorem _root_.L2.PGs.mimp {X : Cx} {tg : List Expr} {t t' : TGs} (h : PGs X tg t) (f : ∀ v σ H Q, t' v σ H Q → t v σ H Q) : PGs X tg t' := ⟨fun pins s σ H v u Q I r q => h.run pins s σ H v u Q I r (f _ _ _ _ q)⟩
def pTup (n : Nat) (q : Gks) : Gk := fun β d nx sl => match d with
  | .tup l => if l.length = n then q β l nx sl else M.bad
  | _ => M.bad
section
variable {X : Cx} {e e1 e2 e3 e4 : Expr} {es : List Expr} {pos : Pos} {x : Str} {i : Nat}
theorem Out.refl (ts : List Nat) (σ : L2.St) : Out ts σ σ := ⟨rfl, fun _ _ => rfl⟩
theorem Out.trans {ts us : List Nat} {σ σ' σ'' : L2.St} (a : Out ts σ σ') (b : Out us σ' σ'') : Out (ts ++ us) σ σ'' := ⟨b.1.trans a.1, fun j h => by
  simp only [List.mem_append, not_or] at h
  rw [b.2 j h.2, a.2 j h.1]⟩
theorem mgn (i : Nat) (hN : X.N.Nodup) (hi : X.N[i]? = some x := by rfl) (hx : L2.Loc X.env.scope x := by first | exact Or.inl rfl | exact Or.inr rfl) (hf : X.fn x = true ∨ X.env.scope.names.lookup x = some .local := by first | exact .inl rfl | exact .inr rfl) : PGm X (.Name x pos) [i] (fun β d nx sl => nx (sl.set i (.va d))) := by
  refine (pg_name hN hi hx hf).mimp fun v σ H Q ⟨ws, B0, sl, w, d, β, nx, e, r, nb, h⟩ => ?_
  obtain ⟨l, e'⟩ := e.put (i := i) r
  exact h _ _ _ _ _ ⟨List.length_set, fun j hj => List.getElem?_set_ne (fun z => hj (by simp [z]))⟩ (fun j hj => List.getElem?_set_ne (fun z => hj (by simp [z]))) l e' rfl
theorem mgs_nil : PGsm X [] [] (fun β ds nx sl => match ds with | [] => nx sl | _ => M.bad) := by
  refine pgs_nil.mimp fun vs σ H Q ⟨ws, B0, sl, w, ds, β, nx, e, r, nb, h⟩ => ?_
  cases r with
  | nil => exact ⟨rfl, h _ _ _ _ _ (Out.refl _ _) (fun _ _ => rfl) (Le.refl _ _ _) e rfl⟩
  | cons _ _ => exact absurd rfl nb
theorem mgs_cons {p : Gk} {q : Gks} {ts us : List Nat} (h1 : PGm X e ts p) (h2 : PGsm X es us q) (hs : (assignEach (e :: es) X.env).map (·.2) = assign e X.env :: (assignEach es X.env).map (·.2) := by rfl) : PGsm X (e :: es) (ts ++ us) (fun β ds nx sl => match ds with | d :: r => p β d (fun sl1 => q β r nx sl1) sl | [] => M.bad) := by
  refine (pgs_cons h1 h2 hs).mimp fun vs σ H Q ⟨ws, B0, sl, w, ds, β, nx, e, r, nb, h⟩ => ?_
  cases r with
  | nil => exact absurd rfl nb
  | @cons v vs d ds r1 r2 =>
    have nb : p β d (fun sl1 => q β ds nx sl1) sl w ≠ .bad := nb
    refine ⟨v, vs, rfl, ws, B0, sl, w, d, β, _, e, r1, nb, fun σ1 ws1 sl1 w1 H1 o1 u1 l1 e1 z1 => ?_⟩
    refine ⟨ws1, B0, sl1, w1, ds, β, nx, e1, r2.le l1, by rw [z1]; exact nb, fun σ2 ws2 sl2 w2 H2 o2 u2 l2 e2 z2 => ?_⟩
    exact h σ2 ws2 sl2 w2 H2 (o1.trans o2) (fun j hj => by
      simp only [List.mem_append, not_or] at hj
      rw [u2 j hj.2, u1 j hj.1]) (l1.trans l2) e2 (z2.trans z1)
theorem mg_tup {q : Gks} {ts : List Nat} {n k : Nat} (hc : X.calm = true) (h : PGsm X es ts q) (hn : (assignEach es X.env).length = n) (hst : (assignEach es X.env).findIdx? (·.1) = none) : PGm X (.Tuple es k pos) ts (pTup n q) := by
  refine (pg_tup hc h hn hst).mimp fun v σ H Q ⟨ws, B0, sl, w, d, β, nx, e, r, nb, h⟩ => ?_
  cases r with
  | tup z t r =>
    unfold pTup at nb h
    simp only at nb h
    split at nb
    · rename_i hl
      rw [if_pos hl] at h
      exact ⟨_, _, rfl, t.sq, by rw [r.length]; exact hl, ws, B0, sl, w, _, β, nx, e, r, nb, h⟩
    · exact absurd rfl nb
  | _ => exact absurd rfl nb

def fU1 {β : Type} (d : D) (k : D → M β) : M β := match d with
  | .tup [a] => k a
  | _ => M.bad
def fU2 {β : Type} (d : D) (k : D → D → M β) : M β := match d with
  | .tup [a, b] => k a b
  | _ => M.bad
def fU3 {β : Type} (d : D) (k : D → D → D → M β) : M β := match d with
  | .tup [a, b, c] => k a b c
  | _ => M.bad
def fU4 {β : Type} (d : D) (k : D → D → D → D → M β) : M β := match d with
  | .tup [a, b, c, e] => k a b c e
  | _ => M.bad
def fU5 {β : Type} (d : D) (k : D → D → D → D → D → M β) : M β := match d with
  | .tup [a, b, c, e, f] => k a b c e f
  | _ => M.bad
theorem mg_tup2 {p1 p2 : Gk} {t1 t2 : List Nat} {k : Nat} (hc : X.calm = true) (h1 : PGm X e1 t1 p1) (h2 : PGm X e2 t2 p2) (hn : (assignEach [e1, e2] X.env).length = 2 := by rfl) (hst : (assignEach [e1, e2] X.env).findIdx? (·.1) = none := by rfl)
    (hs1 : (assignEach [e1, e2] X.env).map (·.2) = assign e1 X.env :: (assignEach [e2] X.env).map (·.2) := by rfl) (hs2 : (assignEach [e2] X.env).map (·.2) = assign e2 X.env :: (assignEach [] X.env).map (·.2) := by rfl) :
    PGm X (.Tuple [e1, e2] k pos) (t1 ++ (t2 ++ [])) (fun β d nx sl => fU2 d fun a b => p1 β a (fun sl => p2 β b nx sl) sl) := by
  have := mg_tup (k := k) (pos := pos) hc (mgs_cons h1 (mgs_cons h2 mgs_nil hs2) hs1) hn hst
  refine (congrArg (fun p => PGm X (.Tuple [e1, e2] k pos) (t1 ++ (t2 ++ [])) p) ?_).mp this
  funext β d nx sl
  unfold pTup fU2
  cases d <;> try rfl
  rename_i l
  match l with
  | [] => rfl
  | [_] => rfl
  | [_, _] => rfl
  | _ :: _ :: _ :: _ => simp
theorem mg_tup3 {p1 p2 p3 : Gk} {t1 t2 t3 : List Nat} {k : Nat} (hc : X.calm = true) (h1 : PGm X e1 t1 p1) (h2 : PGm X e2 t2 p2) (h3 : PGm X e3 t3 p3) (hn : (assignEach [e1, e2, e3] X.env).length = 3 := by rfl) (hst : (assignEach [e1, e2, e3] X.env).findIdx? (·.1) = none := by rfl)
    (hs1 : (assignEach [e1, e2, e3] X.env).map (·.2) = assign e1 X.env :: (assignEach [e2, e3] X.env).map (·.2) := by rfl) (hs2 : (assignEach [e2, e3] X.env).map (·.2) = assign e2 X.env :: (assignEach [e3] X.env).map (·.2) := by rfl) (hs3 : (assignEach [e3] X.env).map (·.2) = assign e3 X.env :: (assignEach [] X.env).map (·.2) := by rfl) :
    PGm X (.Tuple [e1, e2, e3] k pos) (t1 ++ (t2 ++ (t3 ++ []))) (fun β d nx sl => fU3 d fun a b c => p1 β a (fun sl => p2 β b (fun sl => p3 β c nx sl) sl) sl) := by
  have := mg_tup (k := k) (pos := pos) hc (mgs_cons h1 (mgs_cons h2 (mgs_cons h3 mgs_nil hs3) hs2) hs1) hn hst
  refine (congrArg (fun p => PGm X (.Tuple [e1, e2, e3] k pos) (t1 ++ (t2 ++ (t3 ++ []))) p) ?_).mp this
  funext β d nx sl
  unfold pTup fU3
  cases d <;> try rfl
  rename_i l
  match l with
  | [] => rfl
  | [_] => rfl
  | [_, _] => rfl
  | [_, _, _] => rfl
  | _ :: _ :: _ :: _ :: _ => simp
theorem mg_tup4 {p1 p2 p3 p4 : Gk} {t1 t2 t3 t4 : List Nat} {k : Nat} (hc : X.calm = true) (h1 : PGm X e1 t1 p1) (h2 : PGm X e2 t2 p2) (h3 : PGm X e3 t3 p3) (h4 : PGm X e4 t4 p4) (hn : (assignEach [e1, e2, e3, e4] X.env).length = 4 := by rfl) (hst : (assignEach [e1, e2, e3, e4] X.env).findIdx? (·.1) = none := by rfl)
    (hs1 : (assignEach [e1, e2, e3, e4] X.env).map (·.2) = assign e1 X.env :: (assignEach [e2, e3, e4] X.env).map (·.2) := by rfl) (hs2 : (assignEach [e2, e3, e4] X.env).map (·.2) = assign e2 X.env :: (assignEach [e3, e4] X.env).map (·.2) := by rfl) (hs3 : (assignEach [e3, e4] X.env).map (·.2) = assign e3 X.env :: (assignEach [e4] X.env).map (·.2) := by rfl) (hs4 : (assignEach [e4] X.env).map (·.2) = assign e4 X.env :: (assignEach [] X.env).map (·.2) := by rfl) :
    PGm X (.Tuple [e1, e2, e3, e4] k pos) (t1 ++ (t2 ++ (t3 ++ (t4 ++ [])))) (fun β d nx sl => fU4 d fun a b c f => p1 β a (fun sl => p2 β b (fun sl => p3 β c (fun sl => p4 β f nx sl) sl) sl) sl) := by
  have := mg_tup (k := k) (pos := pos) hc (mgs_cons h1 (mgs_cons h2 (mgs_cons h3 (mgs_cons h4 mgs_nil hs4) hs3) hs2) hs1) hn hst
  refine (congrArg (fun p => PGm X (.Tuple [e1, e2, e3, e4] k pos) (t1 ++ (t2 ++ (t3 ++ (t4 ++ [])))) p) ?_).mp this
  funext β d nx sl
  unfold pTup fU4
  cases d <;> try rfl
  rename_i l
  match l with
  | [] => rfl
  | [_] => rfl
  | [_, _] => rfl
  | [_, _, _] => rfl
  | [_, _, _, _] => rfl
  | _ :: _ :: _ :: _ :: _ :: _ => simp
end

/-! ### target = e -/
section
variable {X : Cx} {Wx : WX} {e tg iter c : Expr} {pos : Pos} {body : List Stmt}
theorem ms_asg {f : Dn} {p : Gk} {ts : List Nat} (he : PEm X Wx e f) (hg : PGm X tg ts p) (hs : swapsWithSole [tg] e pos.line X.env = pure false := by rfl) (hw : swappedStores [tg] e X.env = pure none := by rfl)
    (h1 : (assignEach [tg] X.env).map (·.2) = [assign tg X.env] := by rfl) : PSm X Wx (.Assign [tg] e pos) (fun nx _ _ sl => (f sl).bind fun d => p D d nx sl) := by
  refine (ps_asg he hg hs hw h1).mimp fun D0 σ H ⟨ws, B0, sl, w, nx, bk, ct, e, h⟩ => ?_
  refine ⟨ws, B0, sl, w, e, (Ans.bind h).mono fun ws1 w1 d H1 l1 e1 h1 v hv => ?_⟩
  exact ⟨ws1, B0, sl, w1, d, D, nx, e1, hv, h1.nb, fun σ' ws' sl' w' H' o _ l e' q => h1.nx σ' ws' sl' w' H' l e' q⟩

/-! ### for -/
def forK (js : List Nat) (p : Gk) (b : Sk) : List D → Kn → Kn
  | [], nx => fun sl => nx sl
  | x :: xs, nx => fun sl => p D x (fun sl1 => b (fun sl2 => forK js p b xs nx (setNo js sl2)) (fun sl2 => nx (setNo js sl2)) (fun sl2 => forK js p b xs nx (setNo js sl2)) sl1) sl
theorem ms_for0 {it : An} {p : Gk} {b : Sk} {ts : List Nat} (js : List Nat) (hp : PassesOwn (model X.prog X.w) X.A X.env X.xe) (hi : PIm X Wx tg iter it) (hg : PGm X tg ts p) (hb : PSsm X Wx body b) (hc : X.calm = true := by rfl) (hs : ∀ x, foldedSetIterable iter X.env x = pure x := by intro _; rfl) :
    PSm X Wx (.For tg iter body [] pos) (fun nx _ _ sl => (it sl).bind fun xs => forK js p b xs nx (setNo js sl)) := by
  refine (ps_for hp hc hi hg hb hs).mimp fun D0 σ H ⟨ws, B0, sl, w, nx, bk, ct, e, h⟩ => ?_
  refine ⟨ws, B0, sl, w, e, (Ans.bind h).mono fun ws1 w1 items H1 l1 e1 h1 J hz hJ => ?_⟩
  obtain ⟨l0, e0⟩ := e1.dropAll js
  generalize hr : forK js p b items nx (setNo js sl) w1 = r at h1
  refine ⟨fun i m σ' H' => m = items.length - i ∧ ∃ ws' sl' w', Le ws1 (Own sl σ) H1 ws' (Own sl' σ') H' ∧ Env X.K ws' B0 sl' w' σ' H' ∧ forK js p b (items.drop i) nx sl' w' = r,
    ⟨items.length, rfl, ws1, _, w1, l0, e0, hr⟩, ?_⟩
  rintro i m σ' H' ⟨rfl, ws', sl', w', l, e', h'⟩
  have hj := hJ ws' (Bad ws' B0 sl' σ') H' l.wle l.kp l.bad e'.bad i
  by_cases hi : i < items.length
  · have hd : items[i]? = some items[i] := by simp [hi]
    have hdr : items.drop i = items[i] :: items.drop (i + 1) := (List.drop_eq_getElem_cons hi)
    rw [hdr] at h'
    obtain ⟨hgo, hy⟩ := hj.1 _ hd
    refine .inr ⟨hgo, _, fun σ2 H2 z => z, fun x H2 hyl => ?_⟩
    obtain ⟨gr, hx⟩ := hy x H2 hyl
    unfold forK at h'
    refine ⟨ws', B0, sl', w', items[i], D, _, e'.grow gr, hx, by rw [h']; exact h1.nb, fun σ2 ws2 sl2 w2 H3 o2 _ l2 e2 z2 => ?_⟩
    have l02 := (gr.le ws' (Own sl' σ')).trans l2
    rw [h'] at z2
    have lall := l.trans l02
    have nxt : ∀ {σ3 ws3 sl3 w3 H4}, Le ws2 (Own sl2 σ2) H3 ws3 (Own sl3 σ3) H4 → Env X.K ws3 B0 sl3 w3 σ3 H4 → forK js p b (items.drop (i + 1)) nx (setNo js sl3) w3 = r → ∃ m', m' < items.length - i ∧ m' = items.length - (i + 1) ∧ ∃ ws' sl' w', Le ws1 (Own sl σ) H1 ws' (Own sl' σ3) H4 ∧ Env X.K ws' B0 sl' w' σ3 H4 ∧ forK js p b (items.drop (i + 1)) nx sl' w' = r := fun {σ3 ws3 sl3 w3 H4} l3 e3 q => by
      obtain ⟨l4, e4⟩ := e3.dropAll js
      exact ⟨items.length - (i + 1), by omega, rfl, ws3, _, w3, (lall.trans l3).trans l4, e4, q⟩
    refine ⟨ws2, B0, sl2, w2, _, _, _, e2, ⟨by rw [z2]; exact h1.nb, ?_, ?_, ?_, ?_, ?_⟩⟩
    · intro σ3 ws3 sl3 w3 H4 l3 e3 q
      exact nxt l3 e3 (q.trans z2)
    · intro σ3 ws3 sl3 w3 H4 l3 e3 q
      obtain ⟨l4, e4⟩ := e3.dropAll js
      exact h1.nx σ3 ws3 _ w3 H4 ((lall.trans l3).trans l4) e4 (q.trans z2)
    · intro σ3 ws3 sl3 w3 H4 l3 e3 q
      exact nxt l3 e3 (q.trans z2)
    · intro d w3 q σ3 ws3 sl3 H4 v l3 e3 hv
      exact h1.rt d w3 (z2.symm.trans q) σ3 ws3 sl3 H4 v (lall.trans l3) e3 hv
    · intro c w3 q σ3 ws3 sl3 H4 C hC l3 e3
      exact h1.ex c w3 (z2.symm.trans q) σ3 ws3 sl3 H4 C hC (lall.trans l3) e3
  · refine .inl ⟨hj.2 (by omega), ?_⟩
    rw [List.drop_of_length_le (by omega)] at h'
    exact h1.nx σ' ws' sl' w' H' l e' h'
/-- for x in items: st is carried; k: what comes behind -/
def fFor {σ α : Type} (body : D → σ → (σ → M α) → M α) : List D → σ → (σ → M α) → M α
  | [], st, k => k st
  | x :: xs, st, k => body x st fun st' => fFor body xs st' k
/-- the same, with break -/
def fForB {σ α : Type} (body : D → σ → (σ → M α) → (σ → M α) → M α) : List D → σ → (σ → M α) → M α
  | [], st, k => k st
  | x :: xs, st, k => body x st (fun st' => fForB body xs st' k) k
theorem forK_eq {ε τ : Type} {js : List Nat} {p : Gk} {b : Sk} {enc : ε → τ → Ls} {bodyF : ε → D → τ → (τ → M D) → M D}
    (heq : ∀ e x st (k kb : Kn), p D x (fun sl1 => b (fun sl2 => k (setNo js sl2)) (fun sl2 => kb (setNo js sl2)) (fun sl2 => k (setNo js sl2)) sl1) (enc e st) = bodyF e x st fun st' => k (enc e st')) (e : ε) (nx : Kn) : ∀ (xs : List D) (st : τ), forK js p b xs nx (enc e st) = fFor (bodyF e) xs st fun st' => nx (enc e st')
  | [], st => rfl
  | x :: xs, st => by
    unfold forK fFor
    rw [heq e x st (fun sl => forK js p b xs nx sl) nx]
    congr 1
    funext st'
    exact forK_eq heq e nx xs st'
theorem forKB_eq {ε τ : Type} {js : List Nat} {p : Gk} {b : Sk} {enc : ε → τ → Ls} {bodyF : ε → D → τ → (τ → M D) → (τ → M D) → M D}
    (heq : ∀ e x st (k kb : Kn), p D x (fun sl1 => b (fun sl2 => k (setNo js sl2)) (fun sl2 => kb (setNo js sl2)) (fun sl2 => k (setNo js sl2)) sl1) (enc e st) = bodyF e x st (fun st' => k (enc e st')) (fun st' => kb (enc e st'))) (e : ε) (nx : Kn) : ∀ (xs : List D) (st : τ), forK js p b xs nx (enc e st) = fForB (bodyF e) xs st fun st' => nx (enc e st')
  | [], st => rfl
  | x :: xs, st => by
    unfold forK fForB
    rw [heq e x st (fun sl => forK js p b xs nx sl) nx]
    congr 1
    funext st'
    exact forKB_eq heq e nx xs st'
/-- the slots by what they hold -/
def nVw {ε τ : Type} (vw : Ls → Option (ε × τ)) (sl : Ls) (k : ε → τ → M D) : M D := match vw sl with
  | some (e, st) => k e st
  | none => M.bad
theorem ms_eqv {st : Stmt} {b b' : Sk} (h : PSm X Wx st b) (hb : ∀ nx bk ct sl w, b' nx bk ct sl w = .bad ∨ b nx bk ct sl w = b' nx bk ct sl w) : PSm X Wx st b' := by
  refine h.mimp fun D0 σ H ⟨ws, B0, sl, w, nx, bk, ct, e, h⟩ => ?_
  rcases hb nx bk ct sl w with q | q
  · exact absurd q h.nb
  · exact ⟨ws, B0, sl, w, nx, bk, ct, e, by rw [q]; exact h⟩
theorem ms_for {ε τ : Type} {it : An} {p : Gk} {b : Sk} {ts : List Nat} (js : List Nat) (enc : ε → τ → Ls) (vw : Ls → Option (ε × τ)) (bodyF : ε → D → τ → (τ → M D) → M D) (hp : PassesOwn (model X.prog X.w) X.A X.env X.xe) (hi : PIm X Wx tg iter it) (hg : PGm X tg ts p) (hb : PSsm X Wx body b)
    (heq : ∀ e x st (k kb : Kn), p D x (fun sl1 => b (fun sl2 => k (setNo js sl2)) (fun sl2 => kb (setNo js sl2)) (fun sl2 => k (setNo js sl2)) sl1) (enc e st) = bodyF e x st fun st' => k (enc e st'))
    (hv : ∀ sl e st, vw sl = some (e, st) → sl = enc e st) (hc : X.calm = true := by rfl) (hs : ∀ x, foldedSetIterable iter X.env x = pure x := by intro _; rfl) :
    PSm X Wx (.For tg iter body [] pos) (fun nx _ _ sl => nVw vw (setNo js sl) fun e st => (it sl).bind fun xs => fFor (bodyF e) xs st fun st' => nx (enc e st')) := by
  refine ms_eqv (ms_for0 js hp hi hg hb hc hs) fun nx bk ct sl w => ?_
  unfold nVw
  cases q : vw (setNo js sl) with
  | none => exact .inl rfl
  | some z =>
    obtain ⟨e, st⟩ := z
    refine .inr ?_
    simp only
    congr 2
    funext xs
    rw [hv _ _ _ q, forK_eq heq]
theorem ms_forB {ε τ : Type} {it : An} {p : Gk} {b : Sk} {ts : List Nat} (js : List Nat) (enc : ε → τ → Ls) (vw : Ls → Option (ε × τ)) (bodyF : ε → D → τ → (τ → M D) → (τ → M D) → M D) (hp : PassesOwn (model X.prog X.w) X.A X.env X.xe) (hi : PIm X Wx tg iter it) (hg : PGm X tg ts p) (hb : PSsm X Wx body b)
    (heq : ∀ e x st (k kb : Kn), p D x (fun sl1 => b (fun sl2 => k (setNo js sl2)) (fun sl2 => kb (setNo js sl2)) (fun sl2 => k (setNo js sl2)) sl1) (enc e st) = bodyF e x st (fun st' => k (enc e st')) (fun st' => kb (enc e st')))
    (hv : ∀ sl e st, vw sl = some (e, st) → sl = enc e st) (hc : X.calm = true := by rfl) (hs : ∀ x, foldedSetIterable iter X.env x = pure x := by intro _; rfl) :
    PSm X Wx (.For tg iter body [] pos) (fun nx _ _ sl => nVw vw (setNo js sl) fun e st => (it sl).bind fun xs => fForB (bodyF e) xs st fun st' => nx (enc e st')) := by
  refine ms_eqv (ms_for0 js hp hi hg hb hc hs) fun nx bk ct sl w => ?_
  unfold nVw
  cases q : vw (setNo js sl) with
  | none => exact .inl rfl
  | some z =>
    obtain ⟨e, st⟩ := z
    refine .inr ?_
    simp only
    congr 2
    funext xs
    rw [hv _ _ _ q, forKB_eq heq]

/-! ### while -/
/-- so many turns at most -/
noncomputable def wF : Nat := Classical.choose (⟨100000, rfl⟩ : ∃ n : Nat, n = 100000)
theorem wF_eq : wF = 100000 := Classical.choose_spec (⟨100000, rfl⟩ : ∃ n : Nat, n = 100000)
def whileK (js : List Nat) (c : Bn) (b : Sk) : Nat → Kn → Kn
  | 0, _ => fun _ => M.bad
  | n + 1, nx => fun sl => fIf (c sl) (b (fun sl2 => whileK js c b n nx (setNo js sl2)) (fun sl2 => nx (setNo js sl2)) (fun sl2 => whileK js c b n nx (setNo js sl2)) sl) (nx sl)
theorem ms_while0 {cf : Bn} {b : Sk} (js : List Nat) (n : Nat) (hp : PassesOwn (model X.prog X.w) X.A X.env X.xe) (hc : PTm X Wx c cf) (hb : PSsm X Wx body b) : PSm X Wx (.While c body [] pos) (fun nx _ _ sl => whileK js cf b n nx (setNo js sl)) := by
  refine (ps_while hp hc hb).mimp fun D0 σ H ⟨ws, B0, sl, w, nx, bk, ct, e, h⟩ => ?_
  obtain ⟨l0, e0⟩ := e.dropAll js
  have h : Ans X.K X.mg Wx ws B0 sl σ H (whileK js cf b n nx (setNo js sl) w) nx bk ct D0 := h
  generalize hr : whileK js cf b n nx (setNo js sl) w = r at h
  refine ⟨fun m σ' H' => ∃ ws' sl' w', Le ws (Own sl σ) H ws' (Own sl' σ') H' ∧ Env X.K ws' B0 sl' w' σ' H' ∧ whileK js cf b m nx sl' w' = r, ⟨n, ws, _, w, l0, e0, hr⟩, ?_⟩
  rintro m σ' H' ⟨ws', sl', w', l, e', h'⟩
  cases m with
  | zero => exact absurd h'.symm h.nb
  | succ m =>
    have h'' : M.bind (cf sl') (fun t => if t = true then b (fun sl2 => whileK js cf b m nx (setNo js sl2)) (fun sl2 => nx (setNo js sl2)) (fun sl2 => whileK js cf b m nx (setNo js sl2)) sl' else nx sl') w' = r := h'
    refine ⟨ws', B0, sl', w', e', ?_⟩
    unfold M.bind at h''
    cases q : cf sl' w' with
    | bad => rw [q] at h''; exact absurd h''.symm h.nb
    | ex c w1 => rw [q] at h''; exact fun ws1 H1 C hC l1 e1 => h.ex c w1 h''.symm σ' ws1 sl' H1 C hC (l.trans l1) e1
    | ok k w1 =>
      rw [q] at h''
      simp only at h''
      intro ws1 H1 l1 e1
      cases k with
      | false =>
        rw [if_neg Bool.false_ne_true] at h''
        exact h.nx σ' ws1 sl' w1 H1 (l.trans l1) e1 h''
      | true =>
        rw [if_pos rfl] at h''
        have lall := l.trans l1
        show ∃ N : L2.St → Hp → Prop, _
        have nxt : ∀ {σ3 ws3 sl3 w3 H4}, Le ws1 (Own sl' σ') H1 ws3 (Own sl3 σ3) H4 → Env X.K ws3 B0 sl3 w3 σ3 H4 → whileK js cf b m nx (setNo js sl3) w3 = r → ∃ m', m' < m + 1 ∧ ∃ ws' sl' w', Le ws (Own sl σ) H ws' (Own sl' σ3) H4 ∧ Env X.K ws' B0 sl' w' σ3 H4 ∧ whileK js cf b m' nx sl' w' = r := fun {σ3 ws3 sl3 w3 H4} l3 e3 q => by
          obtain ⟨l4, e4⟩ := e3.dropAll js
          exact ⟨m, by omega, ws3, _, w3, (lall.trans l3).trans l4, e4, q⟩
        refine ⟨_, fun σ2 H2 z => z, ws1, B0, sl', w1, _, _, _, e1, ⟨by rw [h'']; exact h.nb, ?_, ?_, ?_, ?_, ?_⟩⟩
        · intro σ3 ws3 sl3 w3 H4 l3 e3 q
          exact nxt l3 e3 (q.trans h'')
        · intro σ3 ws3 sl3 w3 H4 l3 e3 q
          obtain ⟨l4, e4⟩ := e3.dropAll js
          exact h.nx σ3 ws3 _ w3 H4 ((lall.trans l3).trans l4) e4 (q.trans h'')
        · intro σ3 ws3 sl3 w3 H4 l3 e3 q
          exact nxt l3 e3 (q.trans h'')
        · intro d w3 q σ3 ws3 sl3 H4 v l3 e3 hv
          exact h.rt d w3 (h''.symm.trans q) σ3 ws3 sl3 H4 v (lall.trans l3) e3 hv
        · intro c w3 q σ3 ws3 sl3 H4 C hC l3 e3
          exact h.ex c w3 (h''.symm.trans q) σ3 ws3 sl3 H4 C hC (lall.trans l3) e3
def fWhile {σ α : Type} (c : σ → M Bool) (body : σ → (σ → M α) → M α) : Nat → σ → (σ → M α) → M α
  | 0, _, _ => M.bad
  | n + 1, st, k => fIf (c st) (body st fun st' => fWhile c body n st' k) (k st)
def fWhileB {σ α : Type} (c : σ → M Bool) (body : σ → (σ → M α) → (σ → M α) → M α) : Nat → σ → (σ → M α) → M α
  | 0, _, _ => M.bad
  | n + 1, st, k => fIf (c st) (body st (fun st' => fWhileB c body n st' k) k) (k st)
theorem whileK_eq {ε τ : Type} {js : List Nat} {c : Bn} {b : Sk} {enc : ε → τ → Ls} {cF : ε → τ → M Bool} {bodyF : ε → τ → (τ → M D) → M D} (heqc : ∀ e st, c (enc e st) = cF e st)
    (heq : ∀ e st (k kb : Kn), b (fun sl2 => k (setNo js sl2)) (fun sl2 => kb (setNo js sl2)) (fun sl2 => k (setNo js sl2)) (enc e st) = bodyF e st fun st' => k (enc e st')) (e : ε) (nx : Kn) : ∀ (n : Nat) (st : τ), whileK js c b n nx (enc e st) = fWhile (cF e) (bodyF e) n st fun st' => nx (enc e st')
  | 0, st => rfl
  | n + 1, st => by
    unfold whileK fWhile
    rw [heq e st (fun sl => whileK js c b n nx sl) nx, heqc]
    congr 2
    funext st'
    exact whileK_eq heqc heq e nx n st'
theorem whileKB_eq {ε τ : Type} {js : List Nat} {c : Bn} {b : Sk} {enc : ε → τ → Ls} {cF : ε → τ → M Bool} {bodyF : ε → τ → (τ → M D) → (τ → M D) → M D} (heqc : ∀ e st, c (enc e st) = cF e st)
    (heq : ∀ e st (k kb : Kn), b (fun sl2 => k (setNo js sl2)) (fun sl2 => kb (setNo js sl2)) (fun sl2 => k (setNo js sl2)) (enc e st) = bodyF e st (fun st' => k (enc e st')) (fun st' => kb (enc e st'))) (e : ε) (nx : Kn) : ∀ (n : Nat) (st : τ), whileK js c b n nx (enc e st) = fWhileB (cF e) (bodyF e) n st fun st' => nx (enc e st')
  | 0, st => rfl
  | n + 1, st => by
    unfold whileK fWhileB
    rw [heq e st (fun sl => whileK js c b n nx sl) nx, heqc]
    congr 2
    funext st'
    exact whileKB_eq heqc heq e nx n st'
theorem ms_while {ε τ : Type} {cf : Bn} {b : Sk} (js : List Nat) (n : Nat) (enc : ε → τ → Ls) (vw : Ls → Option (ε × τ)) (cF : ε → τ → M Bool) (bodyF : ε → τ → (τ → M D) → M D) (hp : PassesOwn (model X.prog X.w) X.A X.env X.xe) (hc : PTm X Wx c cf) (hb : PSsm X Wx body b)
    (heqc : ∀ e st, cf (enc e st) = cF e st)
    (heq : ∀ e st (k kb : Kn), b (fun sl2 => k (setNo js sl2)) (fun sl2 => kb (setNo js sl2)) (fun sl2 => k (setNo js sl2)) (enc e st) = bodyF e st fun st' => k (enc e st'))
    (hv : ∀ sl e st, vw sl = some (e, st) → sl = enc e st) :
    PSm X Wx (.While c body [] pos) (fun nx _ _ sl => nVw vw (setNo js sl) fun e st => fWhile (cF e) (bodyF e) n st fun st' => nx (enc e st')) := by
  refine ms_eqv (ms_while0 js n hp hc hb) fun nx bk ct sl w => ?_
  unfold nVw
  cases q : vw (setNo js sl) with
  | none => exact .inl rfl
  | some z =>
    obtain ⟨e, st⟩ := z
    refine .inr ?_
    simp only
    rw [hv _ _ _ q, whileK_eq heqc heq]
theorem ms_whileB {ε τ : Type} {cf : Bn} {b : Sk} (js : List Nat) (n : Nat) (enc : ε → τ → Ls) (vw : Ls → Option (ε × τ)) (cF : ε → τ → M Bool) (bodyF : ε → τ → (τ → M D) → (τ → M D) → M D) (hp : PassesOwn (model X.prog X.w) X.A X.env X.xe) (hc : PTm X Wx c cf) (hb : PSsm X Wx body b)
    (heqc : ∀ e st, cf (enc e st) = cF e st)
    (heq : ∀ e st (k kb : Kn), b (fun sl2 => k (setNo js sl2)) (fun sl2 => kb (setNo js sl2)) (fun sl2 => k (setNo js sl2)) (enc e st) = bodyF e st (fun st' => k (enc e st')) (fun st' => kb (enc e st')))
    (hv : ∀ sl e st, vw sl = some (e, st) → sl = enc e st) :
    PSm X Wx (.While c body [] pos) (fun nx _ _ sl => nVw vw (setNo js sl) fun e st => fWhileB (cF e) (bodyF e) n st fun st' => nx (enc e st')) := by
  refine ms_eqv (ms_while0 js n hp hc hb) fun nx bk ct sl w => ?_
  unfold nVw
  cases q : vw (setNo js sl) with
  | none => exact .inl rfl
  | some z =>
    obtain ⟨e, st⟩ := z
    refine .inr ?_
    simp only
    rw [hv _ _ _ q, whileKB_eq heqc heq]
end
end Pm
namespace Pm
open PySem PySem.Spec PyProof.Rows L2

/-! ### comprehensions -/
abbrev W0 : WX := fun _ _ _ _ => False
def noOw (vs : List Nat) (sl : Ls) : Bool := vs.all fun j => match sl[j]? with
  | some (.ow _) => false
  | _ => true
/-- nothing is raised -/
def noEx {α : Type} (m : M α) : M α := fun w => match m w with
  | .ex _ _ => .bad
  | r => r
section
variable {α β : Type}
@[simp] theorem noEx_pure (a : α) : noEx (M.pure a) = M.pure a := rfl
@[simp] theorem noEx_bad : noEx (M.bad : M α) = M.bad := rfl
theorem noEx_ok {m : M α} {w w' : W} {a : α} (h : noEx m w = .ok a w') : m w = .ok a w' := by
  unfold noEx at h
  cases q : m w with
  | ex c w1 => rw [q] at h; cases h
  | bad => rw [q] at h; cases h
  | ok b w1 => rw [q] at h; exact h
theorem noEx_ex {m : M α} {w w' : W} {c : Str} : noEx m w ≠ .ex c w' := by
  unfold noEx
  cases q : m w <;> simp
end
def fMapM (f : D → M D) : List D → M (List D)
  | [] => M.pure []
  | x :: xs => (noEx (f x)).bind fun a => (fMapM f xs).bind fun r => M.pure (a :: r)
def fFltM (f : D → M (Option D)) : List D → M (List D)
  | [] => M.pure []
  | x :: xs => (noEx (f x)).bind fun a => (fFltM f xs).bind fun r => M.pure (a.toList ++ r)
def fCatM (f : D → M (List D)) : List D → M (List D)
  | [] => M.pure []
  | x :: xs => (noEx (f x)).bind fun a => (fCatM f xs).bind fun r => M.pure (a ++ r)
theorem bind_okE {α β : Type} {m : M α} {k : α → M β} {w w' : W} {b : β} (h : M.bind m k w = .ok b w') : ∃ a w1, m w = .ok a w1 ∧ k a w1 = .ok b w' := by
  unfold M.bind at h
  cases q : m w with
  | ex c w1 => rw [q] at h; cases h
  | bad => rw [q] at h; cases h
  | ok a w1 => rw [q] at h; exact ⟨a, w1, rfl, h⟩
theorem setNo_get : ∀ {vs : List Nat} {sl : Ls} {j : Nat} {x : Sl}, (setNo vs sl)[j]? = some x → (j ∈ vs ∧ x = .no) ∨ (j ∉ vs ∧ sl[j]? = some x)
  | [], sl, j, x, h => .inr ⟨by simp, h⟩
  | v :: vs, sl, j, x, h => by
    rcases setNo_get (vs := vs) h with ⟨m, z⟩ | ⟨m, z⟩
    · exact .inl ⟨by simp [m], z⟩
    · rcases get_set z with ⟨rfl, q, _⟩ | ⟨n, q⟩
      · exact .inl ⟨by simp, q⟩
      · exact .inr ⟨by simp [n, m], q⟩
theorem setNo_len : ∀ (vs : List Nat) (sl : Ls), (setNo vs sl).length = sl.length
  | [], sl => rfl
  | v :: vs, sl => by rw [setNo, setNo_len vs, List.length_set]
theorem setNo_out : ∀ {vs : List Nat} {sl : Ls} {j : Nat}, j ∉ vs → (setNo vs sl)[j]? = sl[j]?
  | [], sl, j, _ => rfl
  | v :: vs, sl, j, h => by
    simp only [List.mem_cons, not_or] at h
    rw [setNo, setNo_out h.2, List.getElem?_set_ne (Ne.symm h.1)]
theorem wipe_not {σ : L2.St} {vs : List Nat} {j : Nat} (h : j ∉ vs) : (wipe σ vs)[j]? = σ[j]? := wipe_out h
section
variable {K : PySem.W.Frag} {ws ws' : Wa} {B0 : Addr → Prop} {sl sl2 : Ls} {w w' : W} {σ σ2 : L2.St} {H H' : Hp} {vs : List Nat}
theorem own_wipe {a : Addr} (h : Own (setNo vs sl) (wipe σ vs) a) : Own sl σ a := by
  obtain ⟨j, d, h1, h2⟩ := h
  rcases setNo_get h1 with ⟨_, z⟩ | ⟨n, h1⟩
  · cases z
  · rw [wipe_not n] at h2
    exact ⟨j, d, h1, h2⟩
theorem Env.wipe (e : Env K ws B0 sl w σ H) : Le ws (Own sl σ) H ws (Own (setNo vs sl) (L2.wipe σ vs)) H ∧ Env K ws B0 (setNo vs sl) w (L2.wipe σ vs) H := by
  have l : Le ws (Own sl σ) H ws (Own (setNo vs sl) (L2.wipe σ vs)) H := ⟨ws.le_refl, fun _ h => .inl h, fun a h => .inl (own_wipe h), fun _ _ h _ _ => h, fun _ h => h⟩
  refine ⟨l, ⟨by rw [setNo_len, wipe_length]; exact e.len, e.wr, e.bx, e.dom, fun j d h => ?_, fun j d h => ?_, fun j k d d' a h1 h2 h3 h4 => ?_⟩⟩
  · rcases setNo_get h with ⟨_, z⟩ | ⟨n, h⟩
    · cases z
    · obtain ⟨v, q1, q2⟩ := e.va j d h
      exact ⟨v, by rw [wipe_not n]; exact q1, q2.le l⟩
  · rcases setNo_get h with ⟨_, z⟩ | ⟨n, h⟩
    · cases z
    · obtain ⟨a, q1, q2, q3⟩ := e.ow j d h
      exact ⟨a, by rw [wipe_not n]; exact q1, q2.le l fun _ z => z, q3⟩
  · rcases setNo_get h1 with ⟨_, z⟩ | ⟨n1, h1⟩
    · cases z
    · rcases setNo_get h2 with ⟨_, z⟩ | ⟨n2, h2⟩
      · cases z
      · rw [wipe_not n1] at h3
        rw [wipe_not n2] at h4
        exact e.uq j k d d' a h1 h2 h3 h4
theorem noOw_of {j : Nat} {d : D} (hv : noOw vs sl = true) (h : sl[j]? = some (.ow d)) : j ∉ vs := fun hj => by
  have := List.all_eq_true.mp hv j hj
  rw [h] at this
  cases this
theorem Env.back {B' : Addr → Prop} (e : Env K ws B0 sl w σ H) (hB : ∀ a, B' a → B0 a ∨ H a = none) (hv : noOw vs sl = true) (l : Le ws (Own sl σ) H ws' (Own sl2 σ2) H') (e' : Env K ws' B' sl2 w' σ2 H') (hw : L2.wipe σ2 vs = L2.wipe σ vs) (hs : ∀ j, j ∉ vs → sl2[j]? = sl[j]?) :
    Le ws (Own sl σ) H ws' (Own sl σ) H' ∧ Env K ws' B' sl w' σ H' ∧ Le ws' (Own sl2 σ2) H' ws' (Own sl σ) H' := by
  have out : ∀ {j : Nat}, j ∉ vs → σ2[j]? = σ[j]? := fun n => by rw [← wipe_not n (σ := σ2), hw, wipe_not n]
  have hO : ∀ a, Own sl σ a → Own sl2 σ2 a := fun a ⟨j, d, h1, h2⟩ => by
    have n := noOw_of hv h1
    exact ⟨j, d, by rw [hs j n]; exact h1, by rw [out n]; exact h2⟩
  have l' : Le ws (Own sl σ) H ws' (Own sl σ) H' := ⟨l.wle, l.new, fun a h => .inl h, l.keep, l.ex⟩
  have l2 : Le ws' (Own sl2 σ2) H' ws' (Own sl σ) H' := ⟨ws'.le_refl, fun _ h => .inl h, fun a h => .inl (hO a h), fun _ _ h _ _ => h, fun _ h => h⟩
  refine ⟨l', ⟨e.len, e'.wr, e'.bx, e'.dom, fun j d h => ?_, fun j d h => ?_, e.uq⟩, l2⟩
  · obtain ⟨v, q1, q2⟩ := e.va j d h
    exact ⟨v, q1, q2.more hB l'⟩
  · have n := noOw_of hv h
    obtain ⟨a, q1, q2, q3⟩ := e'.ow j d (by rw [hs j n]; exact h)
    exact ⟨a, by rw [← out n]; exact q1, q2.le l2 fun _ z => z, q3⟩
/-- a further address is out of bounds for a while -/
theorem Env.more {B' : Addr → Prop} (e : Env K ws B0 sl w σ H) (hB : ∀ a, B' a → B0 a ∨ (H' a ≠ none ∧ H a = none)) (hX : ∀ a, B' a → B0 a ∨ BxO (H' a)) (g : Grow H H') : Env K ws B' sl w σ H' := by
  have hb : ∀ a, B' a → B0 a ∨ H a = none := fun a z => (hB a z).imp id fun q => q.2
  have l : Le ws (Own sl σ) H ws (Own sl σ) H' := g.le ws _
  refine ⟨e.len, e.wr.grow g, fun a h => ?_, fun a h z => ?_, fun j d h => ?_, fun j d h => ?_, e.uq⟩
  · have old := e.bx.keep (H' := H') e.dom (fun _ z => .inl z) fun a o _ z => g a o z
    rcases hX a h with q | q
    · exact old a q
    · rcases hB a h with y | y
      · exact old a y
      · exact ⟨fun z => e.wd a z y.2, q⟩
  · rcases hB a h with q | q
    · exact e.dom a q (g.ex a z)
    · exact q.1 z
  · obtain ⟨v, q1, q2⟩ := e.va j d h
    exact ⟨v, q1, q2.more hb l⟩
  · obtain ⟨a, q1, q2, q3, q4⟩ := e.ow j d h
    refine ⟨a, q1, ?_, q3, fun z => ?_⟩
    · cases d <;> first
        | exact q2.elim
        | (obtain ⟨vs, r1, r2, r3⟩ := q2; exact ⟨vs, g _ _ r1, r2, r3.more hb l⟩)
    · rcases hb a z with q | q
      · exact q4 q
      · exact q2.there q
/-- an address that is out of bounds is written -/
theorem upd_ex {H : Hp} {a : Addr} {o : HO} (h : H a ≠ none) : ∀ b, upd H a o b = none → H b = none := fun b z => by
  by_cases q : b = a
  · subst q; rw [upd_same] at z; cases z
  · rw [upd_ne q] at z; exact z
theorem Env.setB {a : Addr} {o : HO} (e : Env K ws B0 sl w σ H) (hb : B0 a) (hn : ¬ ws.has a) (hx : BxO (H a)) (ho : BxO (some o)) : Env K ws B0 sl w σ (upd H a o) := by
  have ha := e.dom a hb
  have hk : ∀ b u, H b = some u → ¬ Bad ws B0 sl σ b → upd H a o b = some u := fun b u h n => by rw [upd_ne (fun z => n (by rw [z]; exact .inr (.inl hb)))]; exact h
  have hx1 := upd_ex (o := o) ha
  refine ⟨e.len, ?_, fun b h => ⟨(e.bx b h).1, ?_⟩, fun b h z => e.dom b h (hx1 b z), fun j d h => ?_, fun j d h => ?_, e.uq⟩
  · exact e.wr.upd hn hx
  · by_cases q : b = a
    · subst q; rw [upd_same]; exact ho
    · rw [upd_ne q]; exact (e.bx b h).2
  · obtain ⟨v, q1, q2⟩ := e.va j d h
    exact ⟨v, q1, q2.keep ws.le_refl hk fun _ z => .inl z⟩
  · obtain ⟨b, q1, q2, q3, q4⟩ := e.ow j d h
    have hba : b ≠ a := fun z => q4 (by rw [z]; exact hb)
    refine ⟨b, q1, ?_, q3, q4⟩
    cases d <;> first
      | exact q2.elim
      | (obtain ⟨vs, r1, r2, r3⟩ := q2; exact ⟨vs, by rw [upd_ne hba]; exact r1, r2, r3.keep ws.le_refl hk fun _ z => .inl z⟩)
theorem Env.fewer {B' : Addr → Prop} (e : Env K ws B' sl w σ H) (hB : ∀ a, B0 a → B' a) : Env K ws B0 sl w σ H := by
  have hb : ∀ a, Bad ws B0 sl σ a → Bad ws B' sl σ a ∨ H a = none := fun a z => .inl (z.imp id fun q => q.imp (hB a) id)
  refine ⟨e.len, e.wr, fun a h => e.bx a (hB a h), fun a h => e.dom a (hB a h), fun j d h => ?_, fun j d h => ?_, e.uq⟩
  · obtain ⟨v, q1, q2⟩ := e.va j d h
    exact ⟨v, q1, q2.keep ws.le_refl (fun _ _ z _ => z) hb⟩
  · obtain ⟨a, q1, q2, q3, q4⟩ := e.ow j d h
    refine ⟨a, q1, ?_, q3, fun z => q4 (hB a z)⟩
    cases d <;> first
      | exact q2.elim
      | (obtain ⟨vs, r1, r2, r3⟩ := q2; exact ⟨vs, r1, r2, r3.keep ws.le_refl (fun _ _ z _ => z) hb⟩)
/-- an object that was out of bounds becomes slot i's own -/
theorem Env.adopt {ws0 : Wa} {sl0 : Ls} {σ0 : L2.St} {H0 : Hp} {D0 : Addr} {o : HO} {d : D} {i : Nat} (e : Env K ws (fun a => B0 a ∨ a = D0) sl w σ H) (hn : H0 D0 = none) (ho : H D0 = some o) (nb : ¬ Bad ws B0 sl σ D0) (l : Le ws0 (Own sl0 σ0) H0 ws (Own sl σ) H)
    (hd : ON K ws (Bad ws (fun a => B0 a ∨ a = D0) sl σ) H o d) : Le ws0 (Own sl0 σ0) H0 ws (Own (sl.set i (.ow d)) (σ.set i (some (.ref D0)))) H ∧ Env K ws B0 (sl.set i (.ow d)) w (σ.set i (some (.ref D0))) H := by
  have hO : ∀ a, Own (sl.set i (.ow d)) (σ.set i (some (.ref D0))) a → Own sl σ a ∨ a = D0 := fun a ⟨j, dj, h1, h2⟩ => by
    rcases get_set h1 with ⟨rfl, z, hl⟩ | ⟨n, h1⟩
    · rw [List.getElem?_set_self (by rw [← e.len]; exact hl)] at h2
      cases h2; exact .inr rfl
    · rw [List.getElem?_set_ne (Ne.symm n)] at h2
      exact .inl ⟨j, dj, h1, h2⟩
  have hb : ∀ a, Bad ws B0 (sl.set i (.ow d)) (σ.set i (some (.ref D0))) a → Bad ws (fun a => B0 a ∨ a = D0) sl σ a ∨ H a = none := fun a z => by
    rcases z with z | z | z
    · exact .inl (.inl z)
    · exact .inl (.inr (.inl (.inl z)))
    · rcases hO a z with z | z
      · exact .inl (.inr (.inr z))
      · exact .inl (.inr (.inl (.inr z)))
  have kp : ∀ {vs : List V} {ds : List D}, DRs K ws (Bad ws (fun a => B0 a ∨ a = D0) sl σ) H vs ds → DRs K ws (Bad ws B0 (sl.set i (.ow d)) (σ.set i (some (.ref D0)))) H vs ds := fun r => r.keep ws.le_refl (fun _ _ z _ => z) hb
  refine ⟨⟨l.wle, l.new, fun a z => ?_, l.keep, l.ex⟩, ⟨?_, e.wr, fun a h => e.bx a (.inl h), fun a h => e.dom a (.inl h), fun j dj hj => ?_, fun j dj hj => ?_, fun j k dj dk a hj hk ha hb' => ?_⟩⟩
  · rcases hO a z with z | z
    · exact l.own a z
    · rw [z]; exact .inr hn
  · rw [List.length_set, List.length_set]; exact e.len
  · rcases get_set hj with ⟨rfl, z, hl⟩ | ⟨n, hj⟩
    · cases z
    · obtain ⟨u, h1, h2⟩ := e.va j dj hj
      exact ⟨u, by rw [List.getElem?_set_ne (Ne.symm n)]; exact h1, h2.keep ws.le_refl (fun _ _ z _ => z) hb⟩
  · rcases get_set hj with ⟨rfl, z, hl⟩ | ⟨n, hj⟩
    · cases z
      refine ⟨D0, by rw [List.getElem?_set_self (by rw [← e.len]; exact hl)], ?_, fun z => nb (.inl z), fun z => nb (.inr (.inl z))⟩
      cases d <;> first
        | exact hd.elim
        | (obtain ⟨vs, rfl, r2, r3⟩ := hd; exact ⟨vs, ho, r2, kp r3⟩)
    · obtain ⟨a, h1, h2, h3, h4⟩ := e.ow j dj hj
      refine ⟨a, by rw [List.getElem?_set_ne (Ne.symm n)]; exact h1, ?_, h3, fun z => h4 (.inl z)⟩
      cases dj <;> first
        | exact h2.elim
        | (obtain ⟨vs, r1, r2, r3⟩ := h2; exact ⟨vs, r1, r2, kp r3⟩)
  · have old : ∀ {q : Nat} {dq : D}, sl[q]? = some (.ow dq) → σ[q]? ≠ some (some (.ref D0)) := fun {q dq} h1 h2 => nb (.inr (.inr ⟨q, dq, h1, h2⟩))
    rcases get_set hj with ⟨rfl, z, hl⟩ | ⟨n1, hj'⟩
    · rw [List.getElem?_set_self (by rw [← e.len]; exact hl)] at ha
      cases ha
      rcases get_set hk with ⟨rfl, z, _⟩ | ⟨n2, hk'⟩
      · rfl
      · rw [List.getElem?_set_ne (Ne.symm n2)] at hb'
        exact absurd hb' (old hk')
    · rw [List.getElem?_set_ne (Ne.symm n1)] at ha
      rcases get_set hk with ⟨rfl, z, hl⟩ | ⟨n2, hk'⟩
      · rw [List.getElem?_set_self (by rw [← e.len]; exact hl)] at hb'
        cases hb'
        exact absurd ha (old hj')
      · rw [List.getElem?_set_ne (Ne.symm n2)] at hb'
        exact e.uq j k dj dk a hj' hk' ha hb'
theorem out_wipe {ts : List Nat} (ho : Out ts (L2.wipe σ vs) σ2) (hts : ∀ j ∈ ts, j ∈ vs) : L2.wipe σ2 vs = L2.wipe σ vs := by
  apply List.ext_getElem?
  intro j
  by_cases hj : j ∈ vs
  · have len : (L2.wipe σ2 vs).length = (L2.wipe σ vs).length := by rw [wipe_length, ho.1]
    cases q : (L2.wipe σ2 vs)[j]? with
    | none =>
      rw [List.getElem?_eq_none_iff] at q
      exact (List.getElem?_eq_none_iff.mpr (by omega)).symm
    | some x =>
      cases q2 : (L2.wipe σ vs)[j]? with
      | none =>
        rw [List.getElem?_eq_none_iff] at q2
        have := (List.getElem?_eq_some_iff.mp q).1
        omega
      | some y =>
        cases x with
        | some v => exact absurd hj (wipe_some q).2
        | none =>
          cases y with
          | some v => exact absurd hj (wipe_some q2).2
          | none => rfl
  · rw [wipe_not hj, wipe_not hj, ho.2 j (fun z => hj (hts j z)), wipe_not hj]
end
/-! #### the walk of a comprehension's items -/
section
variable (K : PySem.W.Frag) (B' : Addr → Prop) (D0 : Addr) (sl : Ls) (σ : L2.St) (ws0 : Wa) (O0 : Addr → Prop) (H0 : Hp)
/-- so far the items as stand in the list D0 -/
structure CAt (ws : Wa) (w : W) (as : List D) (H : Hp) : Prop where
  le : Le ws0 O0 H0 ws (Own sl σ) H
  env : Env K ws B' sl w σ H
  nD : ¬ ws.has D0
  acc : ∃ vl, H D0 = some (.lst vl) ∧ DRs K ws (Bad ws B' sl σ) H vl as
end
/-- item by item -/
inductive Rem (T : D → W → List D → W → Prop) : List D → W → List D → W → Prop
  | nil {w : W} : Rem T [] w [] w
  | cons {x : D} {xs : List D} {w w1 wF : W} {a r : List D} : T x w a w1 → Rem T xs w1 r wF → Rem T (x :: xs) w (a ++ r) wF
section
variable {K : PySem.W.Frag} {B' : Addr → Prop} {D0 : Addr} {sl : Ls} {σ : L2.St} {ws0 : Wa} {O0 : Addr → Prop} {H0 : Hp}
theorem CAt.grow {ws : Wa} {w : W} {as : List D} {H H' : Hp} (g : Grow H H') (c : CAt K B' D0 sl σ ws0 O0 H0 ws w as H) : CAt K B' D0 sl σ ws0 O0 H0 ws w as H' :=
  ⟨c.le.trans (g.le _ _), c.env.grow g, c.nD, let ⟨vl, h1, h2⟩ := c.acc; ⟨vl, g _ _ h1, h2.grow g⟩⟩
theorem loop_go {T : D → W → List D → W → Prop} {items pre ds : List D} {w1 wF : W} {J : It} {ws1 : Wa} {H1 : Hp} {Fin : Hp → Prop} {STEP : V → Hp → (Hp → Prop) → Prop} (hrem : Rem T items w1 ds wF)
    (hJ : ∀ ws w as H, CAt K B' D0 sl σ ws0 O0 H0 ws w as H → JOk K ws (Bad ws B' sl σ) J items H) (h0 : CAt K B' D0 sl σ ws0 O0 H0 ws1 w1 pre H1)
    (fin : ∀ ws H, CAt K B' D0 sl σ ws0 O0 H0 ws wF (pre ++ ds) H → Fin H)
    (step : ∀ ws w as H v x a w2 rest (Nx : Hp → Prop), CAt K B' D0 sl σ ws0 O0 H0 ws w as H → DR K ws (Bad ws B' sl σ) H v x → T x w a w2 → as ++ (a ++ rest) = pre ++ ds → (∀ ws' H', CAt K B' D0 sl σ ws0 O0 H0 ws' w2 (as ++ a) H' → Nx H') → STEP v H Nx) :
    ∃ W : Nat → Nat → Hp → Prop, (∃ m, W 0 m H1) ∧ ∀ i m H, W i m H → (J.stop i H ∧ Fin H) ∨ (J.go i H ∧ ∃ Nx : Hp → Prop, (∀ H', Nx H' → ∃ m', m' < m ∧ W (i + 1) m' H') ∧ ∀ x H', J.yld i H x H' → STEP x H' Nx) := by
  refine ⟨fun i m H => m = items.length - i ∧ ∃ ws w as r, CAt K B' D0 sl σ ws0 O0 H0 ws w as H ∧ Rem T (items.drop i) w r wF ∧ as ++ r = pre ++ ds, ⟨_, rfl, ws1, w1, pre, ds, h0, hrem, rfl⟩, ?_⟩
  rintro i m H ⟨rfl, ws, w, as, r, c, hr, hds⟩
  have hj := hJ ws w as H c i
  by_cases hi : i < items.length
  · have hd : items[i]? = some items[i] := by simp [hi]
    rw [List.drop_eq_getElem_cons hi] at hr
    obtain ⟨hgo, hy⟩ := hj.1 _ hd
    cases hr with
    | @cons _ _ _ w2 _ a r' hT hr' =>
      refine .inr ⟨hgo, fun H' => ∃ m', m' < items.length - i ∧ m' = items.length - (i + 1) ∧ ∃ ws w as r, CAt K B' D0 sl σ ws0 O0 H0 ws w as H' ∧ Rem T (items.drop (i + 1)) w r wF ∧ as ++ r = pre ++ ds, fun H' z => z, fun x H' hyl => ?_⟩
      obtain ⟨gr, hx⟩ := hy x H' hyl
      exact step ws w as H' x _ a w2 r' _ (c.grow gr) hx hT hds fun ws' H'' c' => ⟨_, by omega, rfl, ws', w2, as ++ a, r', c', hr', by rw [List.append_assoc]; exact hds⟩
  · rw [List.drop_of_length_le (by omega)] at hr
    cases hr
    rw [List.append_nil] at hds
    subst hds
    exact .inl ⟨hj.2 (by omega), fin ws H c⟩
theorem CAt.push {ws : Wa} {w : W} {as : List D} {H : Hp} {v : V} {d : D} (hB : B' D0) (hn0 : H0 D0 = none ∨ O0 D0) (c : CAt K B' D0 sl σ ws0 O0 H0 ws w as H) (hd : DR K ws (Bad ws B' sl σ) H v d) (hz : as.length < sizeLine) : ∃ acc, H D0 = some (.lst acc) ∧ acc.length < sizeLine ∧ CAt K B' D0 sl σ ws0 O0 H0 ws w (as ++ [d]) (upd H D0 (.lst (acc ++ [v]))) := by
  obtain ⟨vl, h1, h2⟩ := c.acc
  have hk : ∀ b u, H b = some u → ¬ Bad ws B' sl σ b → upd H D0 (.lst (vl ++ [v])) b = some u := fun b u h n => by
    rw [upd_ne (fun z => n (.inr (.inl (by rw [z]; exact hB))))]; exact h
  have hx := upd_ex (o := .lst (vl ++ [v])) (sm h1)
  have hall := h2.append (.one hd)
  refine ⟨vl, h1, by rw [h2.length]; exact hz, ⟨⟨c.le.wle, c.le.new, c.le.own, fun b u q1 q2 q3 => ?_, fun b z => c.le.ex b (hx b z)⟩, c.env.setB hB c.nD (by rw [h1]; trivial) trivial, c.nD, _, upd_same, hall.keep ws.le_refl hk fun _ z => .inl z⟩⟩
  rw [upd_ne (fun z => by
    rcases hn0 with hn0 | hn0
    · rw [z, hn0] at q1; cases q1
    · exact q3 (by rw [z]; exact hn0))]
  exact c.le.keep b u q1 q2 q3
end
section
variable {X : Cx}
abbrev PTsm (X : Cx) (ifs : List Expr) (f : Bn) : Prop := PTs X ifs (tT X.K X.mg W0 f)
theorem mts_one {c : Expr} {f : Bn} (h : PTm X W0 c f) : PTsm X [c] f := pts_one h
end
/-! #### one clause, without a test -/
def T1 (vs : List Nat) (p : Gk) (f : Dn) (sl : Ls) (x : D) (w : W) (a : List D) (w1 : W) : Prop := ∃ d, a = [d] ∧ p D x (fun sl1 => f sl1) (setNo vs sl) w = .ok d w1
def T2 (vs : List Nat) (p : Gk) (c : Bn) (f : Dn) (sl : Ls) (x : D) (w : W) (a : List D) (w1 : W) : Prop := ∃ o : Option D, a = o.toList ∧ p (Option D) x (fun sl1 => fIf (c sl1) ((f sl1).bind fun d => M.pure (some d)) (M.pure none)) (setNo vs sl) w = .ok o w1
theorem rem_map {F : D → M D} {T : D → W → List D → W → Prop} (hT : ∀ x w d w1, F x w = .ok d w1 → T x w [d] w1) : ∀ {items ds : List D} {w wF : W}, fMapM F items w = .ok ds wF → Rem T items w ds wF ∧ ds.length = items.length
  | [], ds, w, wF, h => by cases h; exact ⟨.nil, rfl⟩
  | x :: xs, ds, w, wF, h => by
    obtain ⟨a, w1, h1, h2⟩ := bind_okE h
    obtain ⟨r, w2, h3, h4⟩ := bind_okE h2
    cases h4
    obtain ⟨r1, r2⟩ := rem_map hT h3
    exact ⟨.cons (a := [a]) (hT _ _ _ _ (noEx_ok h1)) r1, by simp [r2]⟩
theorem rem_flt {F : D → M (Option D)} {T : D → W → List D → W → Prop} (hT : ∀ x w o w1, F x w = .ok o w1 → T x w o.toList w1) : ∀ {items ds : List D} {w wF : W}, fFltM F items w = .ok ds wF → Rem T items w ds wF ∧ ds.length ≤ items.length
  | [], ds, w, wF, h => by cases h; exact ⟨.nil, Nat.le_refl _⟩
  | x :: xs, ds, w, wF, h => by
    obtain ⟨a, w1, h1, h2⟩ := bind_okE h
    obtain ⟨r, w2, h3, h4⟩ := bind_okE h2
    cases h4
    obtain ⟨r1, r2⟩ := rem_flt hT h3
    refine ⟨.cons (hT _ _ _ _ (noEx_ok h1)) r1, ?_⟩
    cases a <;> simp <;> omega
theorem rem_cat {F : D → M (List D)} {T : D → W → List D → W → Prop} (hT : ∀ x w o w1, F x w = .ok o w1 → T x w o w1) : ∀ {items ds : List D} {w wF : W}, fCatM F items w = .ok ds wF → Rem T items w ds wF
  | [], ds, w, wF, h => by cases h; exact .nil
  | x :: xs, ds, w, wF, h => by
    obtain ⟨a, w1, h1, h2⟩ := bind_okE h
    obtain ⟨r, w2, h3, h4⟩ := bind_okE h2
    cases h4
    exact .cons (hT _ _ _ _ (noEx_ok h1)) (rem_cat hT h3)
theorem map_noex {F : D → M D} : ∀ {items : List D} {w w' : W} {c : Str}, fMapM F items w ≠ .ex c w'
  | [], w, w', c, h => by cases h
  | x :: xs, w, w', c, h => by
    unfold fMapM M.bind at h
    cases q : noEx (F x) w with
    | ex c w1 => exact noEx_ex q
    | bad => rw [q] at h; cases h
    | ok a w1 =>
      rw [q] at h
      simp only at h
      cases q2 : fMapM F xs w1 with
      | ex c w1 => exact map_noex q2
      | bad => rw [q2] at h; cases h
      | ok a w1 => rw [q2] at h; cases h
theorem flt_noex {F : D → M (Option D)} : ∀ {items : List D} {w w' : W} {c : Str}, fFltM F items w ≠ .ex c w'
  | [], w, w', c, h => by cases h
  | x :: xs, w, w', c, h => by
    unfold fFltM M.bind at h
    cases q : noEx (F x) w with
    | ex c w1 => exact noEx_ex q
    | bad => rw [q] at h; cases h
    | ok a w1 =>
      rw [q] at h
      simp only at h
      cases q2 : fFltM F xs w1 with
      | ex c w1 => exact flt_noex q2
      | bad => rw [q2] at h; cases h
      | ok a w1 => rw [q2] at h; cases h
theorem cat_noex {F : D → M (List D)} : ∀ {items : List D} {w w' : W} {c : Str}, fCatM F items w ≠ .ex c w'
  | [], w, w', c, h => by cases h
  | x :: xs, w, w', c, h => by
    unfold fCatM M.bind at h
    cases q : noEx (F x) w with
    | ex c w1 => exact noEx_ex q
    | bad => rw [q] at h; cases h
    | ok a w1 =>
      rw [q] at h
      simp only at h
      cases q2 : fCatM F xs w1 with
      | ex c w1 => exact cat_noex q2
      | bad => rw [q2] at h; cases h
      | ok a w1 => rw [q2] at h; cases h
section
variable {K : PySem.W.Frag} {mg : Str → Option Value} {Wx : WX} {ws1 : Wa} {B0 : Addr → Prop} {sl : Ls} {w1 wF : W} {σ : L2.St} {H1 : Hp} {vs ts : List Nat} {p : Gk} {c : Bn} {f : Dn} {items ds : List D} {J : It} {Q : VK}
/-- the common part: T's steps answer the rule's steps -/
theorem comp_go {T : D → W → List D → W → Prop} {STEP : Addr → V → Hp → (Hp → Prop) → Prop} (e1 : Env K ws1 B0 sl w1 σ H1) (hrem : Rem T items w1 ds wF) (hz : ds.length ≤ sizeLine)
    (hJ : ∀ ws' (B' : Addr → Prop) H', ws1.le ws' → (∀ a o, H1 a = some o → ¬ Bad ws1 B0 sl σ a → H' a = some o) → (∀ a, B' a → Bad ws1 B0 sl σ a ∨ H1 a = none) → (∀ a, B' a → H' a ≠ none) → JOk K ws' B' J items H')
    (D0 : Addr) (hD : H1 D0 = none)
    (step : ∀ ws w as H v x a w2 rest (Nx : Hp → Prop), CAt K (fun a => B0 a ∨ a = D0) D0 sl σ ws1 (Own sl σ) H1 ws w as H → DR K ws (Bad ws (fun a => B0 a ∨ a = D0) sl σ) H v x → T x w a w2 → (as ++ (a ++ rest)).length ≤ sizeLine → (∀ ws' H', CAt K (fun a => B0 a ∨ a = D0) D0 sl σ ws1 (Own sl σ) H1 ws' w2 (as ++ a) H' → Nx H') → STEP D0 v H Nx)
    (fin : ∀ ws' H' vl, H' D0 = some (.lst vl) → ¬ ws'.has D0 → Le ws1 (Own sl σ) H1 ws' (Own sl σ) H' → Env K ws' (fun a => B0 a ∨ a = D0) sl wF σ H' → DRs K ws' (Bad ws' (fun a => B0 a ∨ a = D0) sl σ) H' vl ds → Q (.ref D0) H') :
    ∃ W : Nat → Nat → Hp → Prop, (∃ m, W 0 m (upd H1 D0 (.lst []))) ∧ ∀ i m H, W i m H → (J.stop i H ∧ Q (.ref D0) H) ∨ (J.go i H ∧ ∃ Nx : Hp → Prop, (∀ H', Nx H' → ∃ m', m' < m ∧ W (i + 1) m' H') ∧ ∀ x H', J.yld i H x H' → STEP D0 x H' Nx) := by
  have gD := Grow.new (o := .lst []) hD
  have hB' : ∀ a, (B0 a ∨ a = D0) → B0 a ∨ (upd H1 D0 (.lst []) a ≠ none ∧ H1 a = none) := fun a z => z.imp id fun q => by subst q; exact ⟨sm upd_same, hD⟩
  refine loop_go (pre := []) (Fin := fun H => Q (.ref D0) H) (STEP := STEP D0) hrem (fun ws w as H c => ?_) (⟨gD.le _ _, e1.more hB' (fun a z => z.imp id fun q => by rw [q, upd_same]; trivial) gD, fun z => e1.wd D0 z hD, [], upd_same, .nil⟩ : CAt K (fun a => B0 a ∨ a = D0) D0 sl σ ws1 (Own sl σ) H1 ws1 w1 [] (upd H1 D0 (.lst []))) (fun ws H c => ?_) fun ws w as H v x a w2 rest Nx cc hd hT hl hnx => step ws w as H v x a w2 rest Nx cc hd hT (by rw [hl]; exact hz) hnx
  · exact hJ ws _ H c.le.wle c.le.kp (bad_more (fun a z => z.imp id fun q => by rw [q]; exact hD) c.le) c.env.bad
  · obtain ⟨vl, h1, h2⟩ := c.acc
    exact fin ws H vl h1 c.nD c.le c.env h2
theorem CAt.nO {B' : Addr → Prop} {D0 : Addr} {ws0 ws : Wa} {O0 : Addr → Prop} {H0 H : Hp} {w : W} {as : List D} (hBD : B' D0) (c : CAt K B' D0 sl σ ws0 O0 H0 ws w as H) : ¬ Own sl σ D0 := fun ⟨j, dj, z1, z2⟩ => by
  obtain ⟨a, y1, y2, y3, y4⟩ := c.env.ow j dj z1
  rw [z2] at y1
  cases y1
  exact y4 hBD
theorem CAt.after {B' : Addr → Prop} {D0 : Addr} {ws0 ws ws' : Wa} {O0 : Addr → Prop} {H0 H H' : Hp} {w w' : W} {as : List D} {sl' : Ls} {σ' : L2.St} (hBD : B' D0) (c : CAt K B' D0 sl σ ws0 O0 H0 ws w as H) (l : Le ws (Own sl σ) H ws' (Own sl' σ') H') (e : Env K ws' B' sl' w' σ' H') : CAt K B' D0 sl' σ' ws0 O0 H0 ws' w' as H' := by
  obtain ⟨vl, h1, h2⟩ := c.acc
  refine ⟨c.le.trans l, e, fun z => ?_, vl, l.keep D0 _ h1 c.nD (c.nO hBD), h2.le l⟩
  rcases l.new D0 z with q | q
  · exact c.nD q
  · rw [h1] at q; cases q
/-- the target is bound, something runs -/
theorem bind_go {β : Type} {B' : Addr → Prop} {D0 : Addr} {ws0 : Wa} {O0 : Addr → Prop} {H0 : Hp} (hts : ∀ j ∈ ts, j ∈ vs) (hBD : B' D0) {ws : Wa} {w : W} {as : List D} {H : Hp} {v : V} {x : D} {nx : Ls → M β} {Q : L2.St → Hp → Prop}
    (cc : CAt K B' D0 sl σ ws0 O0 H0 ws w as H) (hd : DR K ws (Bad ws B' sl σ) H v x) (nb : p β x nx (setNo vs sl) w ≠ .bad)
    (k : ∀ ws2 sl2 w2 σ2 H2, CAt K B' D0 sl2 σ2 ws0 O0 H0 ws2 w2 as H2 → Le ws (Own sl σ) H ws2 (Own sl2 σ2) H2 → L2.wipe σ2 vs = L2.wipe σ vs → (∀ j, j ∉ vs → sl2[j]? = sl[j]?) → nx sl2 w2 = p β x nx (setNo vs sl) w → Q σ2 H2) : tGm K ts p v (L2.wipe σ vs) H Q := by
  obtain ⟨lw, ew⟩ := cc.env.wipe (vs := vs)
  refine ⟨ws, B', setNo vs sl, w, x, β, nx, ew, hd.le lw, nb, fun σ2 ws2 sl2 w2 H2 o2 u2 l2 e2 z2 => ?_⟩
  exact k ws2 sl2 w2 σ2 H2 (cc.after hBD (lw.trans l2) e2) (lw.trans l2) (out_wipe o2 hts) (fun j hj => by rw [u2 j (fun z => hj (hts j z)), setNo_out hj]) z2
/-- the slots are back -/
theorem CAt.back {B' : Addr → Prop} {D0 : Addr} {ws0 ws ws2 : Wa} {O0 : Addr → Prop} {H0 H H2 : Hp} {w w2 : W} {as as2 : List D} {sl2 : Ls} {σ2 : L2.St} (hno : noOw vs sl = true) (cc : CAt K B' D0 sl σ ws0 O0 H0 ws w as H) (l : Le ws (Own sl σ) H ws2 (Own sl2 σ2) H2) (c : CAt K B' D0 sl2 σ2 ws0 O0 H0 ws2 w2 as2 H2) (hw : L2.wipe σ2 vs = L2.wipe σ vs) (hs : ∀ j, j ∉ vs → sl2[j]? = sl[j]?) :
    CAt K B' D0 sl σ ws0 O0 H0 ws2 w2 as2 H2 ∧ Le ws2 (Own sl2 σ2) H2 ws2 (Own sl σ) H2 := by
  obtain ⟨l', e', l2⟩ := cc.env.back (fun a z => .inl z) hno l c.env hw hs
  obtain ⟨vl, h1, h2⟩ := c.acc
  exact ⟨⟨c.le.trans l2, e', c.nD, vl, h1, h2.le l2⟩, l2⟩
def tYes : TT := fun _ H Q => Q true H
def STEP1 (K : PySem.W.Frag) (mg : Str → Option Value) (vs ts : List Nat) (p : Gk) (tt : TT) (f : Dn) (σ : L2.St) (D0 : Addr) (v : V) (H : Hp) (Nx : Hp → Prop) : Prop := tGm K ts p v (L2.wipe σ vs) H fun σ2 H2 => L2.wipe σ2 vs = L2.wipe σ vs ∧ tt σ2 H2 fun b H3 =>
        if b = true then tE K mg W0 f σ2 H3 fun y H4 => ∃ acc, H4 D0 = some (.lst acc) ∧ acc.length < sizeLine ∧ Nx (upd H4 D0 (.lst (acc ++ [y]))) else Nx H3
theorem runAt_ok {α : Type} {ws : Wa} {B : Addr → Prop} {H : Hp} {r : Rs α} {a : α} {w' : W} {k : Wa → W → α → Hp → Prop} (q : r = .ok a w') (h : ∀ ws' H', Le ws (Own sl σ) H ws' (Own sl σ) H' → Env K ws' B sl w' σ H' → k ws' w' a H') : runAt K mg Wx ws B sl σ H r k := by subst q; exact h
/-- an item's value is put behind the others -/
theorem put_go {B' : Addr → Prop} {D0 : Addr} {ws0 : Wa} {O0 : Addr → Prop} {H0 : Hp} {ws ws2 : Wa} {w w2 w3 : W} {as : List D} {H H2 : Hp} {sl2 : Ls} {σ2 : L2.St} {d : D} {Nx : Hp → Prop} (hBD : B' D0) (hn0 : H0 D0 = none ∨ O0 D0) (hno : noOw vs sl = true) (cc : CAt K B' D0 sl σ ws0 O0 H0 ws w as H) (l2 : Le ws (Own sl σ) H ws2 (Own sl2 σ2) H2) (c2 : CAt K B' D0 sl2 σ2 ws0 O0 H0 ws2 w2 as H2) (hw : L2.wipe σ2 vs = L2.wipe σ vs) (hs : ∀ j, j ∉ vs → sl2[j]? = sl[j]?) (hf : f sl2 w2 = .ok d w3) (hl : as.length < sizeLine)
    (hnx : ∀ ws' H', CAt K B' D0 sl σ ws0 O0 H0 ws' w3 (as ++ [d]) H' → Nx H') : tE K mg W0 f σ2 H2 fun y H4 => ∃ acc, H4 D0 = some (.lst acc) ∧ acc.length < sizeLine ∧ Nx (upd H4 D0 (.lst (acc ++ [y]))) := by
  refine ⟨ws2, B', sl2, w2, c2.env, runAt_ok hf fun ws4 H4 l4 e4 v hv => ?_⟩
  obtain ⟨cb, lb⟩ := CAt.back hno cc (l2.trans l4) (c2.after hBD l4 e4) hw hs
  obtain ⟨acc, h1, h2, h3⟩ := cb.push hBD hn0 (hv.le lb) hl
  exact ⟨acc, h1, h2, hnx _ _ h3⟩
theorem step1 {B' : Addr → Prop} {D0 : Addr} {ws0 : Wa} {O0 : Addr → Prop} {H0 : Hp} (hts : ∀ j ∈ ts, j ∈ vs) (hno : noOw vs sl = true) (hBD : B' D0) (hn0 : H0 D0 = none ∨ O0 D0) {ws w as H v x a w2} {rest : List D} {Nx : Hp → Prop} (cc : CAt K B' D0 sl σ ws0 O0 H0 ws w as H) (hd : DR K ws (Bad ws B' sl σ) H v x) (hT : T1 vs p f sl x w a w2) (hl : (as ++ (a ++ rest)).length ≤ sizeLine)
    (hnx : ∀ ws' H', CAt K B' D0 sl σ ws0 O0 H0 ws' w2 (as ++ a) H' → Nx H') : STEP1 K mg vs ts p tYes f σ D0 v H Nx := by
  obtain ⟨d, rfl, hp⟩ := hT
  refine bind_go hts hBD cc hd (by rw [hp]; exact fun z => by cases z) fun ws2 sl2 w3 σ2 H2 c2 l2 hw hs z => ⟨hw, ?_⟩
  rw [hp] at z
  show tE K mg W0 f σ2 H2 _
  exact put_go hBD hn0 hno cc l2 c2 hw hs z (by simp at hl; omega) hnx
theorem step2 {B' : Addr → Prop} {D0 : Addr} {ws0 : Wa} {O0 : Addr → Prop} {H0 : Hp} (hts : ∀ j ∈ ts, j ∈ vs) (hno : noOw vs sl = true) (hBD : B' D0) (hn0 : H0 D0 = none ∨ O0 D0) {ws w as H v x a w2} {rest : List D} {Nx : Hp → Prop} (cc : CAt K B' D0 sl σ ws0 O0 H0 ws w as H) (hd : DR K ws (Bad ws B' sl σ) H v x) (hT : T2 vs p c f sl x w a w2) (hl : (as ++ (a ++ rest)).length ≤ sizeLine)
    (hnx : ∀ ws' H', CAt K B' D0 sl σ ws0 O0 H0 ws' w2 (as ++ a) H' → Nx H') : STEP1 K mg vs ts p (tT K mg W0 c) f σ D0 v H Nx := by
  obtain ⟨o, rfl, hp⟩ := hT
  refine bind_go hts hBD cc hd (by rw [hp]; exact fun z => by cases z) fun ws2 sl2 w3 σ2 H2 c2 l2 hw hs z => ⟨hw, ?_⟩
  rw [hp] at z
  obtain ⟨b, w4, hc, z⟩ := bind_okE z
  refine ⟨ws2, _, sl2, w3, c2.env, runAt_ok hc fun ws4 H4 l4 e4 => ?_⟩
  have c4 := c2.after hBD l4 e4
  cases b with
  | false =>
    rw [if_neg Bool.false_ne_true] at z
    show Nx H4
    cases z
    have := (CAt.back hno cc (l2.trans l4) c4 hw hs).1
    exact hnx _ _ (by simpa using this)
  | true =>
    rw [if_pos rfl] at z
    obtain ⟨d, w5, hf, z⟩ := bind_okE z
    cases z
    show tE K mg W0 f σ2 H4 _
    exact put_go hBD hn0 hno cc (l2.trans l4) c4 hw hs hf (by simp at hl; omega) hnx
end
theorem DRs.small {K : PySem.W.Frag} {ws : Wa} {B0 : Addr → Prop} {sl : Ls} {σ : L2.St} {H : Hp} {D0 : Addr} {vl : List V} {ds : List D} (r : DRs K ws (Bad ws (fun a => B0 a ∨ a = D0) sl σ) H vl ds) : DRs K ws (Bad ws B0 sl σ) H vl ds :=
  r.keep ws.le_refl (fun _ _ z _ => z) fun a z => .inl (z.imp id fun q => q.imp .inl id)
/-- the denotations -/
def fLC (items : M (List D)) (f : D → M D) : M D := items.bind fun l => (fMapM f l).bind fun r => M.pure (.lst r)
def fLCf (items : M (List D)) (f : D → M (Option D)) : M D := items.bind fun l => (fFltM f l).bind fun r => M.pure (.lst r)
def nNo (vs : List Nat) (sl : Ls) (m : M D) : M D := match noOw vs sl with
  | true => m
  | false => M.bad
section
variable {X : Cx} {Wx : WX} {elt tg iter : Expr} {ifs : List Expr} {scope : Scope} {own : List (Str × Nat)} {pos : Pos} {it : An} {p : Gk} {c : Bn} {f : Dn} {ts : List Nat}
def lcPost (K : PySem.W.Frag) (mg : Str → Option Value) (Wx : WX) (ws : Wa) (B0 : Addr → Prop) (sl : Ls) (σ : L2.St) (H : Hp) (r : Rs D) (Q : VK) : Prop := match r with
  | .ok d wF => ∀ ws' H' D0 vl ds, d = .lst ds → ds.length ≤ sizeLine → H D0 = none → H' D0 = some (HO.lst vl) → ¬ Bad ws' B0 sl σ D0 → Le ws (Own sl σ) H ws' (Own sl σ) H' → Env K ws' (fun a => B0 a ∨ a = D0) sl wF σ H' → DRs K ws' (Bad ws' (fun a => B0 a ∨ a = D0) sl σ) H' vl ds → Q (.ref D0) H'
  | .ex x w' => ∀ ws' H' C, mg x = some (.ref C) → Le ws (Own sl σ) H ws' (Own sl σ) H' → Env K ws' B0 sl w' σ H' → Wx (.ref C) none σ H'
  | .bad => False
theorem lc_go {K : PySem.W.Frag} {mg : Str → Option Value} {vs : List Nat} (hts : ∀ j ∈ ts, j ∈ vs) (σ : L2.St) (H : Hp) (Q : VK) {ws : Wa} {B0 : Addr → Prop} {sl : Ls} {w : W} (e : Env K ws B0 sl w σ H)
    (h : lcPost K mg Wx ws B0 sl σ H (nNo vs sl (fLC (it sl) fun x => p D x (fun sl1 => f sl1) (setNo vs sl)) w) Q) : tLc (tIm K mg Wx it) (tGm K ts p) tYes (tE K mg W0 f) vs σ H Q := by
  unfold nNo at h
  cases hno : noOw vs sl with
  | false => rw [hno] at h; exact h.elim
  | true =>
    rw [hno] at h
    refine ⟨ws, B0, sl, w, e, ?_⟩
    unfold fLC M.bind at h
    simp only at h
    cases qi : it sl w with
    | bad => rw [qi] at h; exact h.elim
    | ex x s' => rw [qi] at h; exact h
    | ok items w1 =>
      rw [qi] at h
      simp only at h
      intro ws1 H1 l1 e1 J hz hJ D0 hD
      cases q : fMapM (fun x => p D x (fun sl1 => f sl1) (setNo vs sl)) items w1 with
      | bad => rw [q] at h; exact h.elim
      | ex y s2 => exact absurd q map_noex
      | ok ds wF =>
        rw [q] at h
        obtain ⟨hr, hl⟩ := rem_map (T := T1 vs p f sl) (fun x w d w1 z => ⟨d, rfl, z⟩) q
        refine comp_go (STEP := STEP1 K mg vs ts p tYes f σ) e1 hr (by omega) hJ D0 hD (fun ws w as H v x a w2 rest Nx cc hd hT hl hnx => step1 hts hno (.inr rfl) (.inl hD) cc hd hT hl hnx) fun ws' H' vl hvl nD l e' r => ?_
        refine h ws' H' D0 vl ds rfl (by omega) (l1.ex D0 hD) hvl (fun z => ?_) (l1.trans l) e' r
        rcases z with z | z | ⟨j, dj, z1, z2⟩
        · exact nD z
        · exact e1.dom D0 z hD
        · obtain ⟨a, y1, y2, y3, y4⟩ := e'.ow j dj z1
          rw [z2] at y1
          cases y1
          exact y4 (.inr rfl)
theorem lcf_go {K : PySem.W.Frag} {mg : Str → Option Value} {vs : List Nat} (hts : ∀ j ∈ ts, j ∈ vs) (σ : L2.St) (H : Hp) (Q : VK) {ws : Wa} {B0 : Addr → Prop} {sl : Ls} {w : W} (e : Env K ws B0 sl w σ H)
    (h : lcPost K mg Wx ws B0 sl σ H (nNo vs sl (fLCf (it sl) fun x => p (Option D) x (fun sl1 => fIf (c sl1) ((f sl1).bind fun d => M.pure (some d)) (M.pure none)) (setNo vs sl)) w) Q) : tLc (tIm K mg Wx it) (tGm K ts p) (tT K mg W0 c) (tE K mg W0 f) vs σ H Q := by
  unfold nNo at h
  cases hno : noOw vs sl with
  | false => rw [hno] at h; exact h.elim
  | true =>
    rw [hno] at h
    refine ⟨ws, B0, sl, w, e, ?_⟩
    unfold fLCf M.bind at h
    simp only at h
    cases qi : it sl w with
    | bad => rw [qi] at h; exact h.elim
    | ex x s' => rw [qi] at h; exact h
    | ok items w1 =>
      rw [qi] at h
      simp only at h
      intro ws1 H1 l1 e1 J hz hJ D0 hD
      cases q : fFltM (fun x => p (Option D) x (fun sl1 => fIf (c sl1) ((f sl1).bind fun d => M.pure (some d)) (M.pure none)) (setNo vs sl)) items w1 with
      | bad => unfold M.bind at q; rw [q] at h; exact h.elim
      | ex y s2 => exact absurd q flt_noex
      | ok ds wF =>
        obtain ⟨hr, hl⟩ := rem_flt (T := T2 vs p c f sl) (fun x w d w1 z => ⟨d, rfl, z⟩) q
        unfold M.bind at q
        rw [q] at h
        refine comp_go (STEP := STEP1 K mg vs ts p (tT K mg W0 c) f σ) e1 hr (by omega) hJ D0 hD (fun ws w as H v x a w2 rest Nx cc hd hT hl hnx => step2 hts hno (.inr rfl) (.inl hD) cc hd hT hl hnx) fun ws' H' vl hvl nD l e' r => ?_
        refine h ws' H' D0 vl ds rfl (by omega) (l1.ex D0 hD) hvl (fun z => ?_) (l1.trans l) e' r
        rcases z with z | z | ⟨j, dj, z1, z2⟩
        · exact nD z
        · exact e1.dom D0 z hD
        · obtain ⟨a, y1, y2, y3, y4⟩ := e'.ow j dj z1
          rw [z2] at y1
          cases y1
          exact y4 (.inr rfl)
theorem post_E {K : PySem.W.Frag} {mg : Str → Option Value} {ws : Wa} {B0 : Addr → Prop} {sl : Ls} {σ : L2.St} {H : Hp} {r : Rs D} {Q : VK} (h : runAt K mg Wx ws B0 sl σ H r fun ws' _ d H' => ∀ v, DR K ws' (Bad ws' B0 sl σ) H' v d → Q v H') : lcPost K mg Wx ws B0 sl σ H r Q := by
  cases r with
  | bad => exact h
  | ex c w => exact h
  | ok d wF =>
    intro ws' H' D0 vl ds hd hz hn hvl nb l e' rr
    subst hd
    exact h ws' H' l (e'.fewer fun a z => .inl z) _ (.lst hz nb hvl rr.small)
theorem post_own {K : PySem.W.Frag} {mg : Str → Option Value} {ws : Wa} {B0 : Addr → Prop} {sl : Ls} {w : W} {σ : L2.St} {H : Hp} {m : M D} {nx bk ct : Kn} {D0 : Ends} {i : Nat} (h : Ans K mg Wx ws B0 sl σ H (M.bind m (fun d => nx (sl.set i (.ow d))) w) nx bk ct D0) : lcPost K mg Wx ws B0 sl σ H (m w) (fun v H' => gName i v σ H' fun σ' H'' => D0.nx σ' H'') := by
  unfold M.bind at h
  cases q : m w with
  | bad => rw [q] at h; exact absurd rfl h.nb
  | ex c w1 => rw [q] at h; exact fun ws' H' C hC l e' => h.ex c w1 rfl σ ws' sl H' C hC l e'
  | ok d wF =>
    rw [q] at h
    intro ws' H' E0 vl ds hd hz hn hvl nb l e' rr
    subst hd
    obtain ⟨l2, e2⟩ := e'.adopt (i := i) (d := .lst ds) hn hvl nb l ⟨vl, rfl, hz, rr⟩
    exact h.nx _ _ _ _ _ l2 e2 rfl
theorem pts_yes {X : Cx} : PTs X [] tYes := pts_nil
/-- [elt for tg in iter] -/
theorem m_lc (hc : X.calm = true) (hN : X.N.Nodup) (hi : PIm X Wx tg iter it) (ok : BlkOk X.N X.env.scope scope own) (hts : ∀ j ∈ ts, j ∈ own.map (·.2))
    (hg : ∀ (s : Shared) (H : Hp) (C : Addr) (cl : List (Str × Addr)) (fp : List Addr), PGm (X.blk s H scope (compEnvC scope cl C X.env) fp) tg ts p)
    (he : ∀ (s : Shared) (H : Hp) (C : Addr) (cl : List (Str × Addr)) (fp : List Addr), PEm (X.blk s H scope (compEnvC scope cl C X.env) fp) W0 elt f) (hs : ∀ x, foldedSetIterable iter X.env x = pure x := by intro _; rfl) :
    PEm X Wx (.ListComp elt [⟨tg, iter, [], 0⟩] scope pos) (fun sl => nNo (own.map (·.2)) sl (fLC (it sl) fun x => p D x (fun sl1 => f sl1) (setNo (own.map (·.2)) sl))) :=
  (pe_lc hc hN hi ok hg (fun _ _ _ _ _ => pts_yes) he hs).mimp fun σ H Q ⟨ws, B0, sl, w, e, h⟩ => lc_go hts σ H Q e (post_E h)
/-- [elt for tg in iter if c] -/
theorem m_lcf {cc : Expr} (hc : X.calm = true) (hN : X.N.Nodup) (hi : PIm X Wx tg iter it) (ok : BlkOk X.N X.env.scope scope own) (hts : ∀ j ∈ ts, j ∈ own.map (·.2))
    (hg : ∀ (s : Shared) (H : Hp) (C : Addr) (cl : List (Str × Addr)) (fp : List Addr), PGm (X.blk s H scope (compEnvC scope cl C X.env) fp) tg ts p) (ht : ∀ (s : Shared) (H : Hp) (C : Addr) (cl : List (Str × Addr)) (fp : List Addr), PTm (X.blk s H scope (compEnvC scope cl C X.env) fp) W0 cc c)
    (he : ∀ (s : Shared) (H : Hp) (C : Addr) (cl : List (Str × Addr)) (fp : List Addr), PEm (X.blk s H scope (compEnvC scope cl C X.env) fp) W0 elt f) (hs : ∀ x, foldedSetIterable iter X.env x = pure x := by intro _; rfl) :
    PEm X Wx (.ListComp elt [⟨tg, iter, [cc], 0⟩] scope pos) (fun sl => nNo (own.map (·.2)) sl (fLCf (it sl) fun x => p (Option D) x (fun sl1 => fIf (c sl1) ((f sl1).bind fun d => M.pure (some d)) (M.pure none)) (setNo (own.map (·.2)) sl))) :=
  (pe_lc hc hN hi ok hg (fun s H C cl fp => pts_one (ht s H C cl fp)) he hs).mimp fun σ H Q ⟨ws, B0, sl, w, e, h⟩ => lcf_go hts σ H Q e (post_E h)
/-- y = [..] on one line, the name a local -/
theorem ms_setLc {i : Nat} {y : Str} {py spos : Pos} (hc : X.calm = true) (hN : X.N.Nodup) (hy : X.N[i]? = some y) (hyl : X.env.scope.names.lookup y = some .local)
    (hsw : swapsWith (.ListComp elt [⟨tg, iter, [], 0⟩] scope pos) (some (.Name y py)) spos.line X.env = pure true) (hi : PIm X Wx tg iter it) (ok : BlkOk X.N X.env.scope scope own) (hts : ∀ j ∈ ts, j ∈ own.map (·.2))
    (hg : ∀ (s : Shared) (H : Hp) (C : Addr) (cl : List (Str × Addr)) (fp : List Addr), PGm (X.blk s H scope (compEnvC scope cl C X.env) fp) tg ts p)
    (he : ∀ (s : Shared) (H : Hp) (C : Addr) (cl : List (Str × Addr)) (fp : List Addr), PEm (X.blk s H scope (compEnvC scope cl C X.env) fp) W0 elt f) (hs : ∀ x, foldedSetIterable iter X.env x = pure x := by intro _; rfl) :
    PSm X Wx (.Assign [.Name y py] (.ListComp elt [⟨tg, iter, [], 0⟩] scope pos) spos) (fun nx _ _ sl => (nNo (own.map (·.2)) sl (fLC (it sl) fun x => p D x (fun sl1 => f sl1) (setNo (own.map (·.2)) sl))).bind fun d => nx (sl.set i (.va d))) := by
  refine (ps_setLc (g := tGm X.K ts p) (tt := tYes) (te := tE X.K X.mg W0 f) hc hN hy hyl hsw hi ok hg (fun _ _ _ _ _ => pts_yes) he hs).mimp fun D0 σ H h => ?_
  obtain ⟨ws, B0, sl, w, e, h⟩ := set_go D0 σ H h
  exact lc_go hts σ H _ e (post_E h)
theorem ms_setLcf {cc : Expr} {i : Nat} {y : Str} {py spos : Pos} (hc : X.calm = true) (hN : X.N.Nodup) (hy : X.N[i]? = some y) (hyl : X.env.scope.names.lookup y = some .local)
    (hsw : swapsWith (.ListComp elt [⟨tg, iter, [cc], 0⟩] scope pos) (some (.Name y py)) spos.line X.env = pure true) (hi : PIm X Wx tg iter it) (ok : BlkOk X.N X.env.scope scope own) (hts : ∀ j ∈ ts, j ∈ own.map (·.2))
    (hg : ∀ (s : Shared) (H : Hp) (C : Addr) (cl : List (Str × Addr)) (fp : List Addr), PGm (X.blk s H scope (compEnvC scope cl C X.env) fp) tg ts p) (ht : ∀ (s : Shared) (H : Hp) (C : Addr) (cl : List (Str × Addr)) (fp : List Addr), PTm (X.blk s H scope (compEnvC scope cl C X.env) fp) W0 cc c)
    (he : ∀ (s : Shared) (H : Hp) (C : Addr) (cl : List (Str × Addr)) (fp : List Addr), PEm (X.blk s H scope (compEnvC scope cl C X.env) fp) W0 elt f) (hs : ∀ x, foldedSetIterable iter X.env x = pure x := by intro _; rfl) :
    PSm X Wx (.Assign [.Name y py] (.ListComp elt [⟨tg, iter, [cc], 0⟩] scope pos) spos) (fun nx _ _ sl => (nNo (own.map (·.2)) sl (fLCf (it sl) fun x => p (Option D) x (fun sl1 => fIf (c sl1) ((f sl1).bind fun d => M.pure (some d)) (M.pure none)) (setNo (own.map (·.2)) sl))).bind fun d => nx (sl.set i (.va d))) := by
  refine (ps_setLc (g := tGm X.K ts p) (tt := tT X.K X.mg W0 c) (te := tE X.K X.mg W0 f) hc hN hy hyl hsw hi ok hg (fun s H C cl fp => pts_one (ht s H C cl fp)) he hs).mimp fun D0 σ H h => ?_
  obtain ⟨ws, B0, sl, w, e, h⟩ := set_go D0 σ H h
  exact lcf_go hts σ H _ e (post_E h)
/-- the same, where the slot is to own the list -/
theorem ms_ownLc {i : Nat} {y : Str} {py spos : Pos} (hc : X.calm = true) (hN : X.N.Nodup) (hy : X.N[i]? = some y) (hyl : X.env.scope.names.lookup y = some .local)
    (hsw : swapsWith (.ListComp elt [⟨tg, iter, [], 0⟩] scope pos) (some (.Name y py)) spos.line X.env = pure true) (hi : PIm X Wx tg iter it) (ok : BlkOk X.N X.env.scope scope own) (hts : ∀ j ∈ ts, j ∈ own.map (·.2))
    (hg : ∀ (s : Shared) (H : Hp) (C : Addr) (cl : List (Str × Addr)) (fp : List Addr), PGm (X.blk s H scope (compEnvC scope cl C X.env) fp) tg ts p)
    (he : ∀ (s : Shared) (H : Hp) (C : Addr) (cl : List (Str × Addr)) (fp : List Addr), PEm (X.blk s H scope (compEnvC scope cl C X.env) fp) W0 elt f) (hs : ∀ x, foldedSetIterable iter X.env x = pure x := by intro _; rfl) :
    PSm X Wx (.Assign [.Name y py] (.ListComp elt [⟨tg, iter, [], 0⟩] scope pos) spos) (fun nx _ _ sl => (nNo (own.map (·.2)) sl (fLC (it sl) fun x => p D x (fun sl1 => f sl1) (setNo (own.map (·.2)) sl))).bind fun d => nx (sl.set i (.ow d))) :=
  (ps_setLc (g := tGm X.K ts p) (tt := tYes) (te := tE X.K X.mg W0 f) hc hN hy hyl hsw hi ok hg (fun _ _ _ _ _ => pts_yes) he hs).mimp fun D1 σ H ⟨ws, B0, sl, w, nx, bk, ct, e, h⟩ => lc_go hts σ H _ e (post_own h)
theorem ms_ownLcf {cc : Expr} {i : Nat} {y : Str} {py spos : Pos} (hc : X.calm = true) (hN : X.N.Nodup) (hy : X.N[i]? = some y) (hyl : X.env.scope.names.lookup y = some .local)
    (hsw : swapsWith (.ListComp elt [⟨tg, iter, [cc], 0⟩] scope pos) (some (.Name y py)) spos.line X.env = pure true) (hi : PIm X Wx tg iter it) (ok : BlkOk X.N X.env.scope scope own) (hts : ∀ j ∈ ts, j ∈ own.map (·.2))
    (hg : ∀ (s : Shared) (H : Hp) (C : Addr) (cl : List (Str × Addr)) (fp : List Addr), PGm (X.blk s H scope (compEnvC scope cl C X.env) fp) tg ts p) (ht : ∀ (s : Shared) (H : Hp) (C : Addr) (cl : List (Str × Addr)) (fp : List Addr), PTm (X.blk s H scope (compEnvC scope cl C X.env) fp) W0 cc c)
    (he : ∀ (s : Shared) (H : Hp) (C : Addr) (cl : List (Str × Addr)) (fp : List Addr), PEm (X.blk s H scope (compEnvC scope cl C X.env) fp) W0 elt f) (hs : ∀ x, foldedSetIterable iter X.env x = pure x := by intro _; rfl) :
    PSm X Wx (.Assign [.Name y py] (.ListComp elt [⟨tg, iter, [cc], 0⟩] scope pos) spos) (fun nx _ _ sl => (nNo (own.map (·.2)) sl (fLCf (it sl) fun x => p (Option D) x (fun sl1 => fIf (c sl1) ((f sl1).bind fun d => M.pure (some d)) (M.pure none)) (setNo (own.map (·.2)) sl))).bind fun d => nx (sl.set i (.ow d))) :=
  (ps_setLc (g := tGm X.K ts p) (tt := tT X.K X.mg W0 c) (te := tE X.K X.mg W0 f) hc hN hy hyl hsw hi ok hg (fun s H C cl fp => pts_one (ht s H C cl fp)) he hs).mimp fun D1 σ H ⟨ws, B0, sl, w, nx, bk, ct, e, h⟩ => lcf_go hts σ H _ e (post_own h)
end
/-! #### two clauses -/
def fLC2 (items : M (List D)) (f : D → M (List D)) : M D := items.bind fun l => (fCatM f l).bind fun r => if r.length ≤ sizeLine then M.pure (.lst r) else M.bad
def fIn (items : M (List D)) (f : D → M D) : M (List D) := items.bind fun l => fMapM f l
def fInf (items : M (List D)) (f : D → M (Option D)) : M (List D) := items.bind fun l => fFltM f l
def T3 (vs : List Nat) (p : Gk) (g : An) (sl : Ls) (x : D) (w : W) (a : List D) (w1 : W) : Prop := p (List D) x (fun sl1 => g sl1) (setNo vs sl) w = .ok a w1
section
variable {K : PySem.W.Frag} {mg : Str → Option Value} {Wx : WX} {ws1 : Wa} {B0 : Addr → Prop} {sl : Ls} {w1 wF : W} {σ : L2.St} {H1 : Hp} {vs ts vs1 ts1 : List Nat} {p p1 : Gk} {c : Bn} {f : Dn} {it1 : An}
def STEP2 (K : PySem.W.Frag) (mg : Str → Option Value) (vs ts vs1 ts1 : List Nat) (p p1 : Gk) (tt1 : TT) (it1 : An) (f : Dn) (σ : L2.St) (D0 : Addr) (v : V) (H : Hp) (Nx : Hp → Prop) : Prop := tGm K ts p v (L2.wipe σ vs) H fun σ2 H2 => L2.wipe σ2 vs = L2.wipe σ vs ∧ tYes σ2 H2 fun b H3 =>
    if b = true then tIm K mg W0 it1 σ2 H3 fun J1 H4 => ∃ W1 : Nat → Nat → Hp → Prop, (∃ m, W1 0 m H4) ∧ ∀ j k H, W1 j k H →
      (J1.stop j H ∧ Nx H) ∨ (J1.go j H ∧ ∃ Nx1 : Hp → Prop, (∀ H', Nx1 H' → ∃ k', k' < k ∧ W1 (j + 1) k' H') ∧ ∀ x H', J1.yld j H x H' → STEP1 K mg vs1 ts1 p1 tt1 f σ2 D0 x H' Nx1)
    else Nx H3
theorem step3 {T : Ls → D → W → List D → W → Prop} {tt1 : TT} {g : An} {D0 : Addr} (hts : ∀ j ∈ ts, j ∈ vs) (hno : noOw vs sl = true) (hD : H1 D0 = none)
    (hg : ∀ sl2 w a w2, g sl2 w = .ok a w2 → noOw vs1 sl2 = true ∧ ∃ items w4, it1 sl2 w = .ok items w4 ∧ Rem (T sl2) items w4 a w2)
    (hstep : ∀ {B' : Addr → Prop} {ws0 : Wa} {O0 : Addr → Prop} {H0 : Hp} {sl2 : Ls} {σ2 : L2.St} {ws w as H v x a w2} {rest : List D} {Nx : Hp → Prop}, B' D0 → (H0 D0 = none ∨ O0 D0) → noOw vs1 sl2 = true → CAt K B' D0 sl2 σ2 ws0 O0 H0 ws w as H → DR K ws (Bad ws B' sl2 σ2) H v x → T sl2 x w a w2 → (as ++ (a ++ rest)).length ≤ sizeLine →
      (∀ ws' H', CAt K B' D0 sl2 σ2 ws0 O0 H0 ws' w2 (as ++ a) H' → Nx H') → STEP1 K mg vs1 ts1 p1 tt1 f σ2 D0 v H Nx)
    {ws w as H v x a w2} {rest : List D} {Nx : Hp → Prop} (cc : CAt K (fun a => B0 a ∨ a = D0) D0 sl σ ws1 (Own sl σ) H1 ws w as H) (hd : DR K ws (Bad ws (fun a => B0 a ∨ a = D0) sl σ) H v x) (hT : T3 vs p g sl x w a w2) (hl : (as ++ (a ++ rest)).length ≤ sizeLine)
    (e1 : Env K ws1 B0 sl w1 σ H1)
    (hnx : ∀ ws' H', CAt K (fun a => B0 a ∨ a = D0) D0 sl σ ws1 (Own sl σ) H1 ws' w2 (as ++ a) H' → Nx H') : STEP2 K mg vs ts vs1 ts1 p p1 tt1 it1 f σ D0 v H Nx := by
  have hB : ∀ a, (B0 a ∨ a = D0) → B0 a ∨ H1 a = none := fun a z => z.imp id fun q => by rw [q]; exact hD
  unfold T3 at hT
  refine bind_go hts (.inr rfl) cc hd (by rw [hT]; exact fun z => by cases z) fun ws2 sl2 w3 σ2 H2 c2 l2 hw hs z => ⟨hw, ?_⟩
  rw [hT] at z
  obtain ⟨hno2, items, w4, hi, hrem⟩ := hg _ _ _ _ z
  show tIm K mg W0 it1 σ2 H2 _
  refine ⟨ws2, _, sl2, w3, c2.env, runAt_ok hi fun ws4 H4 l4 e4 J1 hz1 hJ1 => ?_⟩
  have c4 := c2.after (.inr rfl) l4 e4
  refine loop_go (K := K) (B' := fun a => B0 a ∨ a = D0) (D0 := D0) (sl := sl2) (σ := σ2) (ws0 := ws4) (O0 := fun a => Own sl2 σ2 a ∨ a = D0) (H0 := H4) (pre := as) (Fin := Nx) hrem (fun ws w as H c => ?_) ⟨⟨ws4.le_refl, fun _ h => .inl h, fun _ h => .inl (.inl h), fun _ _ h _ _ => h, fun _ h => h⟩, c4.env, c4.nD, c4.acc⟩ (fun ws H c => ?_) (fun ws w as' H v x a' w2 rest' Nx' cc hd hT hl' hnx' => hstep (.inr rfl) (.inr (.inr rfl)) hno2 cc hd hT (rest := rest') (by rw [hl']; simp at hl ⊢; omega) hnx')
  · refine hJ1 ws _ H c.le.wle (fun a o h1 h2 => c.le.keep a o h1 (fun z => h2 (.inl z)) (fun z => ?_)) (fun a z => ?_) c.env.bad
    · rcases z with z | z
      · exact h2 (.inr (.inr z))
      · exact h2 (.inr (.inl (.inr z)))
    · rcases z with z | z | z
      · exact (c.le.new a z).imp .inl id
      · exact .inl (.inr (.inl z))
      · rcases c.le.own a z with (q | q) | q
        · exact .inl (.inr (.inr q))
        · exact .inl (.inr (.inl (.inr q)))
        · exact .inr q
  · have lx : Le ws1 (Own sl σ) H1 ws4 (fun a => Own sl2 σ2 a ∨ a = D0) H4 := ⟨c4.le.wle, c4.le.new, fun a z => by
      rcases z with z | z
      · exact c4.le.own a z
      · rw [z]; exact .inr hD, c4.le.keep, c4.le.ex⟩
    have lF := lx.trans c.le
    obtain ⟨l', e', l2'⟩ := e1.back hB hno lF c.env hw hs
    obtain ⟨vl, h1, h2⟩ := c.acc
    exact hnx ws H ⟨l', e', c.nD, vl, h1, h2.le l2'⟩
end
def nNoL (vs : List Nat) (sl : Ls) (m : M (List D)) : M (List D) := match noOw vs sl with
  | true => m
  | false => M.bad
theorem nNoL_ok {vs : List Nat} {sl : Ls} {m : M (List D)} {w w' : W} {a : List D} (h : nNoL vs sl m w = .ok a w') : noOw vs sl = true ∧ m w = .ok a w' := by
  unfold nNoL at h
  cases q : noOw vs sl with
  | true => rw [q] at h; exact ⟨rfl, h⟩
  | false => rw [q] at h; cases h
section
variable {X : Cx} {Wx : WX} {elt tg iter tg1 iter1 : Expr} {ifs : List Expr} {scope : Scope} {own : List (Str × Nat)} {pos : Pos} {it it1 : An} {p p1 : Gk} {c : Bn} {f : Dn} {ts ts1 : List Nat}
theorem lc2_go {K : PySem.W.Frag} {mg : Str → Option Value} {vs vs1 : List Nat} (hts : ∀ j ∈ ts, j ∈ vs) (hts1 : ∀ j ∈ ts1, j ∈ vs1) (σ : L2.St) (H : Hp) (Q : VK) {ws : Wa} {B0 : Addr → Prop} {sl : Ls} {w : W} (e : Env K ws B0 sl w σ H)
    (h : lcPost K mg Wx ws B0 sl σ H (nNo vs sl (fLC2 (it sl) fun x => p (List D) x (fun sl1 => nNoL vs1 sl1 (fIn (it1 sl1) fun y => p1 D y (fun sl2 => f sl2) (setNo vs1 sl1))) (setNo vs sl)) w) Q) : tLc2 (tIm K mg Wx it) (tGm K ts p) tYes (tIm K mg W0 it1) (tGm K ts1 p1) tYes (tE K mg W0 f) vs vs1 σ H Q := by
  unfold nNo at h
  cases hno : noOw vs sl with
  | false => rw [hno] at h; exact h.elim
  | true =>
    rw [hno] at h
    refine ⟨ws, B0, sl, w, e, ?_⟩
    unfold fLC2 M.bind at h
    simp only at h
    cases qi : it sl w with
    | bad => rw [qi] at h; exact h.elim
    | ex x s' => rw [qi] at h; exact h
    | ok items w1 =>
      rw [qi] at h
      simp only at h
      intro ws1 H1 l1 e1 J hz hJ D0 hD
      cases q : fCatM (fun x => p (List D) x (fun sl1 => nNoL vs1 sl1 (fIn (it1 sl1) fun y => p1 D y (fun sl2 => f sl2) (setNo vs1 sl1))) (setNo vs sl)) items w1 with
      | bad => rw [q] at h; exact h.elim
      | ex y s2 => exact absurd q cat_noex
      | ok ds wF =>
        rw [q] at h
        simp only at h
        split at h
        · rename_i hl
          have hr := rem_cat (T := T3 vs p (fun sl1 => nNoL vs1 sl1 (fIn (it1 sl1) fun y => p1 D y (fun sl2 => f sl2) (setNo vs1 sl1))) sl) (fun x w d w1 z => z) q
          refine comp_go (STEP := STEP2 K mg vs ts vs1 ts1 p p1 tYes it1 f σ) e1 hr hl hJ D0 hD (fun ws w as H v x a w2 rest Nx cc hd hT hl hnx => step3 (T := fun sl2 => T1 vs1 p1 f sl2) hts hno hD (fun sl2 w a w2 z => ?_) (fun hBD hn0 hno2 cc hd hT hl hnx => step1 hts1 hno2 hBD hn0 cc hd hT hl hnx) cc hd hT hl e1 hnx) fun ws' H' vl hvl nD l e' r => ?_
          · obtain ⟨z1, z2⟩ := nNoL_ok z
            obtain ⟨l, w4, z3, z4⟩ := bind_okE z2
            exact ⟨z1, l, w4, z3, (rem_map (T := T1 vs1 p1 f sl2) (fun x w d w1 z => ⟨d, rfl, z⟩) z4).1⟩
          · refine h ws' H' D0 vl ds rfl hl (l1.ex D0 hD) hvl (fun z => ?_) (l1.trans l) e' r
            rcases z with z | z | ⟨j, dj, z1, z2⟩
            · exact nD z
            · exact e1.dom D0 z hD
            · obtain ⟨a, y1, y2, y3, y4⟩ := e'.ow j dj z1
              rw [z2] at y1
              cases y1
              exact y4 (.inr rfl)
        · exact h.elim
theorem m_lc2 (vs1 : List Nat) (hc : X.calm = true) (hN : X.N.Nodup) (hi : PIm X Wx tg iter it) (ok : BlkOk X.N X.env.scope scope own) (hv : ∀ i ∈ vs1, i ∈ own.map (·.2)) (hts : ∀ j ∈ ts, j ∈ own.map (·.2)) (hts1 : ∀ j ∈ ts1, j ∈ vs1)
    (hg : ∀ (s : Shared) (H : Hp) (C : Addr) (cl : List (Str × Addr)) (fp : List Addr), PGm (X.blk s H scope (compEnvC scope cl C X.env) fp) tg ts p)
    (hi1 : ∀ (s : Shared) (H : Hp) (C : Addr) (cl : List (Str × Addr)) (fp : List Addr), PIm (X.blk s H scope (compEnvC scope cl C X.env) fp) W0 tg1 iter1 it1)
    (hg1 : ∀ (s : Shared) (H : Hp) (C : Addr) (cl : List (Str × Addr)) (fp : List Addr), PGm (X.blk s H scope (compEnvC scope cl C X.env) fp) tg1 ts1 p1)
    (he : ∀ (s : Shared) (H : Hp) (C : Addr) (cl : List (Str × Addr)) (fp : List Addr), PEm (X.blk s H scope (compEnvC scope cl C X.env) fp) W0 elt f) (hs : ∀ x, foldedSetIterable iter X.env x = pure x := by intro _; rfl) (hs1 : ∀ env x, foldedSetIterable iter1 env x = pure x := by intro _ _; rfl) :
    PEm X Wx (.ListComp elt [⟨tg, iter, [], 0⟩, ⟨tg1, iter1, [], 0⟩] scope pos) (fun sl => nNo (own.map (·.2)) sl (fLC2 (it sl) fun x => p (List D) x (fun sl1 => nNoL vs1 sl1 (fIn (it1 sl1) fun y => p1 D y (fun sl2 => f sl2) (setNo vs1 sl1))) (setNo (own.map (·.2)) sl))) :=
  (pe_lc2 hc hN hi ok hv hg (fun _ _ _ _ _ => pts_yes) hi1 hg1 (fun _ _ _ _ _ => pts_yes) he hs hs1).mimp fun σ H Q ⟨ws, B0, sl, w, e, h⟩ => lc2_go hts hts1 σ H Q e (post_E h)
theorem ms_setLc2 {i : Nat} {y : Str} {py spos : Pos} (vs1 : List Nat) (hc : X.calm = true) (hN : X.N.Nodup) (hy : X.N[i]? = some y) (hyl : X.env.scope.names.lookup y = some .local)
    (hsw : swapsWith (.ListComp elt [⟨tg, iter, [], 0⟩, ⟨tg1, iter1, [], 0⟩] scope pos) (some (.Name y py)) spos.line X.env = pure true) (hi : PIm X Wx tg iter it) (ok : BlkOk X.N X.env.scope scope own) (hv : ∀ i ∈ vs1, i ∈ own.map (·.2)) (hts : ∀ j ∈ ts, j ∈ own.map (·.2)) (hts1 : ∀ j ∈ ts1, j ∈ vs1)
    (hg : ∀ (s : Shared) (H : Hp) (C : Addr) (cl : List (Str × Addr)) (fp : List Addr), PGm (X.blk s H scope (compEnvC scope cl C X.env) fp) tg ts p)
    (hi1 : ∀ (s : Shared) (H : Hp) (C : Addr) (cl : List (Str × Addr)) (fp : List Addr), PIm (X.blk s H scope (compEnvC scope cl C X.env) fp) W0 tg1 iter1 it1)
    (hg1 : ∀ (s : Shared) (H : Hp) (C : Addr) (cl : List (Str × Addr)) (fp : List Addr), PGm (X.blk s H scope (compEnvC scope cl C X.env) fp) tg1 ts1 p1)
    (he : ∀ (s : Shared) (H : Hp) (C : Addr) (cl : List (Str × Addr)) (fp : List Addr), PEm (X.blk s H scope (compEnvC scope cl C X.env) fp) W0 elt f) (hs : ∀ x, foldedSetIterable iter X.env x = pure x := by intro _; rfl) (hs1 : ∀ env x, foldedSetIterable iter1 env x = pure x := by intro _ _; rfl) :
    PSm X Wx (.Assign [.Name y py] (.ListComp elt [⟨tg, iter, [], 0⟩, ⟨tg1, iter1, [], 0⟩] scope pos) spos) (fun nx _ _ sl => (nNo (own.map (·.2)) sl (fLC2 (it sl) fun x => p (List D) x (fun sl1 => nNoL vs1 sl1 (fIn (it1 sl1) fun y => p1 D y (fun sl2 => f sl2) (setNo vs1 sl1))) (setNo (own.map (·.2)) sl))).bind fun d => nx (sl.set i (.va d))) := by
  refine (ps_setLc2 (g := tGm X.K ts p) (tt := tYes) (wi1 := tIm X.K X.mg W0 it1) (g1 := tGm X.K ts1 p1) (tt1 := tYes) (te := tE X.K X.mg W0 f) hc hN hy hyl hsw hi ok hv hg (fun _ _ _ _ _ => pts_yes) hi1 hg1 (fun _ _ _ _ _ => pts_yes) he hs hs1).mimp fun D0 σ H h => ?_
  obtain ⟨ws, B0, sl, w, e, h⟩ := set_go D0 σ H h
  exact lc2_go hts hts1 σ H _ e (post_E h)
end
end Pm
namespace Pm
open PySem PySem.Spec PyProof.Rows L2

/-! ### a, b = x, y: values and new objects -/
abbrev Hk := Ls → (List Sl → M D) → M D
/-- values by slots' contents; F the new objects in order -/
inductive SRs (K : PySem.W.Frag) (ws : Wa) (B : Addr → Prop) (H : Hp) : List V → List Sl → List Addr → Prop
  | nil : SRs K ws B H [] [] []
  | va {v : V} {d : D} {vs : List V} {xs : List Sl} {F : List Addr} : DR K ws B H v d → SRs K ws B H vs xs F → SRs K ws B H (v :: vs) (.va d :: xs) F
  | ow {p : Addr} {o : HO} {d : D} {vs : List V} {xs : List Sl} {F : List Addr} : H p = some o → ON K ws B H o d → SRs K ws B H vs xs F → SRs K ws B H (.ref p :: vs) (.ow d :: xs) (p :: F)
def tH (K : PySem.W.Frag) (mg : Str → Option Value) (Wx : WX) (h : Hk) : TA := fun σ H Q => ∃ ws B0 sl w k r0 nx bk ct D0, Env K ws B0 sl w σ H ∧ h sl k w = r0 ∧ Ans K mg Wx ws B0 sl σ H r0 nx bk ct D0 ∧
  ∀ ws' w' H' vs F xs, Le ws (Own sl σ) H ws' (Own sl σ) H' → Env K ws' (fun a => B0 a ∨ a ∈ F) sl w' σ H' → F.Nodup → (∀ a ∈ F, H a = none ∧ ¬ Bad ws' B0 sl σ a) → SRs K ws' (Bad ws' (fun a => B0 a ∨ a ∈ F) sl σ) H' vs xs F → k xs w' = r0 → Q vs H'
abbrev PHm (X : Cx) (Wx : WX) (es : List Expr) (h : Hk) : Prop := PA X es (tH X.K X.mg Wx h)
section
variable {K : PySem.W.Frag} {mg : Str → Option Value} {Wx : WX} {ws ws1 : Wa} {B0 : Addr → Prop} {sl : Ls} {σ : L2.St} {H H1 : Hp} {Q : List V → Hp → Prop}
theorem Ans.moreB {B' : Addr → Prop} {r : Rs D} {nx bk ct : Kn} {D0 : Ends} (hB : ∀ a, B0 a → B' a) (h : Ans K mg Wx ws B0 sl σ H r nx bk ct D0) : Ans K mg Wx ws B' sl σ H r nx bk ct D0 where
  nb := h.nb
  nx := fun σ' ws' sl' w' H' l e => h.nx σ' ws' sl' w' H' l (e.fewer hB)
  bk := fun σ' ws' sl' w' H' l e => h.bk σ' ws' sl' w' H' l (e.fewer hB)
  ct := fun σ' ws' sl' w' H' l e => h.ct σ' ws' sl' w' H' l (e.fewer hB)
  rt := fun d w' q σ' ws' sl' H' v l e hv => h.rt d w' q σ' ws' sl' H' v l (e.fewer hB) (hv.keep ws'.le_refl (fun _ _ z _ => z) fun a z => .inl (z.imp id (hB a)))
  ex := fun c w' q σ' ws' sl' H' C hC l e => h.ex c w' q σ' ws' sl' H' C hC l (e.fewer hB)
theorem SRs.mono {B B' : Addr → Prop} {vs : List V} {xs : List Sl} {F : List Addr} (hb : ∀ a, B' a → B a) (h : SRs K ws B H vs xs F) : SRs K ws B' H vs xs F := by
  have kd : ∀ {v d}, DR K ws B H v d → DR K ws B' H v d := fun r => r.keep ws.le_refl (fun _ _ z _ => z) fun a z => .inl (hb a z)
  have kds : ∀ {v d}, DRs K ws B H v d → DRs K ws B' H v d := fun r => r.keep ws.le_refl (fun _ _ z _ => z) fun a z => .inl (hb a z)
  induction h with
  | nil => exact .nil
  | va r _ ih => exact .va (kd r) ih
  | @ow p o d _ _ _ hp r _ ih =>
    refine .ow hp ?_ ih
    cases d <;> first
      | exact r.elim
      | (obtain ⟨vs, r1, r2, r3⟩ := r; exact ⟨vs, r1, r2, kds r3⟩)
end
section
variable {X : Cx} {Wx : WX} {e : Expr} {es : List Expr}
theorem mh_nil : PHm X Wx [] (fun _ k => k []) := pa_nil.mimp fun σ H Q ⟨ws, B0, sl, w, k, r0, nx, bk, ct, D0, e, q, h, f⟩ => f ws w H [] [] [] (Le.refl _ _ _) (e.fewer (B0 := fun a => B0 a ∨ a ∈ ([] : List Addr)) fun a z => z.elim id fun q => nomatch q) List.nodup_nil (fun a z => nomatch z) .nil q
theorem mh_va {f : Dn} {r : Hk} (ha : PEm X Wx e f) (hr : PHm X Wx es r) (hs : starEach (e :: es) X.env = (false, eval e X.env) :: starEach es X.env := by rfl) : PHm X Wx (e :: es) (fun sl k => (f sl).bind fun d => r sl fun xs => k (.va d :: xs)) := by
  refine (pa_cons ha hr hs).mimp fun σ H Q ⟨ws, B0, sl, w, k, r0, nx, bk, ct, D0, e, q, h, g⟩ => ?_
  refine ⟨ws, B0, sl, w, e, ?_⟩
  have q : M.bind (f sl) (fun d => r sl fun xs => k (.va d :: xs)) w = r0 := q
  unfold M.bind at q
  cases qf : f sl w with
  | bad => rw [qf] at q; exact absurd q.symm h.nb
  | ex c w1 => rw [qf] at q; exact fun ws' H' C hC l e => h.ex c w1 q.symm σ ws' sl H' C hC l e
  | ok d w1 =>
    rw [qf] at q
    intro ws1 H1 l1 e1 v hv
    refine ⟨ws1, B0, sl, w1, (fun xs => k (.va d :: xs)), r0, nx, bk, ct, D0, e1, q, h.le l1, fun ws' w' H' vs F xs l e' nd hF sr qk => ?_⟩
    have hb : ∀ a, Bad ws' (fun a => B0 a ∨ a ∈ F) sl σ a → Bad ws1 B0 sl σ a ∨ H1 a = none := bad_more (fun a z => z.imp id fun q => (hF a q).1) l
    exact g ws' w' H' (v :: vs) F (.va d :: xs) (l1.trans l) e' nd (fun a ha => ⟨l1.ex a (hF a ha).1, (hF a ha).2⟩) (.va (hv.keep l.wle l.kp hb) sr) qk
theorem mh_ow {f : Dn} {r : Hk} (ha : PFm X Wx e f) (hr : PHm X Wx es r) (hs : starEach (e :: es) X.env = (false, eval e X.env) :: starEach es X.env := by rfl) : PHm X Wx (e :: es) (fun sl k => (f sl).bind fun d => r sl fun xs => k (.ow d :: xs)) := by
  refine (pa_cons ha hr hs).mimp fun σ H Q ⟨ws, B0, sl, w, k, r0, nx, bk, ct, D0, e, q, h, gg⟩ => ?_
  refine ⟨ws, B0, sl, w, e, ?_⟩
  have q : M.bind (f sl) (fun d => r sl fun xs => k (.ow d :: xs)) w = r0 := q
  unfold M.bind at q
  cases qf : f sl w with
  | bad => rw [qf] at q; exact absurd q.symm h.nb
  | ex c w1 => rw [qf] at q; exact fun ws' H' C hC l e => h.ex c w1 q.symm σ ws' sl H' C hC l e
  | ok d w1 =>
    rw [qf] at q
    intro ws1 H1 l1 e1 p o hp ho
    have g := Grow.new (o := o) hp
    have hB : ∀ a, (B0 a ∨ a = p) → B0 a ∨ (upd H1 p o a ≠ none ∧ H1 a = none) := fun a z => z.imp id fun q => by subst q; exact ⟨sm upd_same, hp⟩
    have e2 : Env X.K ws1 (fun a => B0 a ∨ a = p) sl w1 σ (upd H1 p o) := e1.more hB (fun a z => z.imp id fun q => by
      rw [q, upd_same]
      cases d <;> first
        | exact ho.elim
        | (obtain ⟨vs, r1, _⟩ := ho; rw [r1]; trivial)) g
    have lg : Le ws1 (Own sl σ) H1 ws1 (Own sl σ) (upd H1 p o) := g.le _ _
    refine ⟨ws1, (fun a => B0 a ∨ a = p), sl, w1, (fun xs => k (.ow d :: xs)), r0, nx, bk, ct, D0, e2, q, (h.le (l1.trans lg)).moreB fun a z => .inl z, fun ws' w' H' vs F xs l e' nd hF sr qk => ?_⟩
    have npF : p ∉ F := fun z => by have := (hF p z).1; rw [upd_same] at this; cases this
    have nws : ¬ ws'.has p := fun z => by
      rcases l.new p z with q | q
      · exact e1.wd p q hp
      · rw [upd_same] at q; cases q
    have nO : ¬ Own sl σ p := fun z => e1.fresh hp (.inr (.inr z))
    have nB : ¬ B0 p := fun z => e1.dom p z hp
    have hHp : H' p = some o := l.keep p o upd_same (fun z => e1.wd p z hp) nO
    refine gg ws' w' H' (.ref p :: vs) (p :: F) (.ow d :: xs) (l1.trans (lg.trans l)) (e'.fewer fun a z => ?_) (List.nodup_cons.mpr ⟨npF, nd⟩) (fun a ha => ?_) (.ow hHp ?_ (sr.mono fun a z => ?_)) qk
    · rcases z with z | z
      · exact .inl (.inl z)
      · rcases List.mem_cons.mp z with z | z
        · exact .inl (.inr z)
        · exact .inr z
    · rcases List.mem_cons.mp ha with z | z
      · subst z
        exact ⟨l1.ex _ hp, fun z => z.elim nws fun z => z.elim nB nO⟩
      · obtain ⟨z1, z2⟩ := hF a z
        exact ⟨l1.ex a (g.ex a z1), fun q => z2 (q.imp id fun q => q.imp .inl id)⟩
    · have hb : ∀ a, Bad ws' (fun a => B0 a ∨ a ∈ p :: F) sl σ a → Bad ws1 B0 sl σ a ∨ H1 a = none := bad_more (fun a z => z.imp id fun q => by
        rcases List.mem_cons.mp q with q | q
        · rw [q]; exact hp
        · exact g.ex a (hF a q).1) (lg.trans l)
      have kp := (lg.trans l).kp (B0 := B0)
      cases d <;> first
        | exact ho.elim
        | (obtain ⟨vs, r1, r2, r3⟩ := ho; exact ⟨vs, r1, r2, r3.keep (lg.trans l).wle kp hb⟩)
    · rcases z with z | z | z
      · exact .inl z
      · rcases z with z | z
        · exact .inr (.inl (.inl (.inl z)))
        · rcases List.mem_cons.mp z with z | z
          · exact .inr (.inl (.inl (.inr z)))
          · exact .inr (.inl (.inr z))
      · exact .inr (.inr z)
end
def puts : List Nat → List Sl → Ls → Ls
  | i :: is, x :: xs, sl => puts is xs (sl.set i x)
  | _, _, sl => sl
def setV : List Nat → List V → L2.St → L2.St
  | i :: is, v :: vs, σ => setV is vs (σ.set i (some v))
  | _, _, σ => σ
theorem puts_ok {K : PySem.W.Frag} {ws0 : Wa} {sl0 : Ls} {σ0 : L2.St} {H0 : Hp} {ws : Wa} {B0 : Addr → Prop} {H : Hp} : ∀ (is : List Nat) (vs : List V) (xs : List Sl) (F : List Addr) (sl : Ls) (w : W) (σ : L2.St), is.length = xs.length → Le ws0 (Own sl0 σ0) H0 ws (Own sl σ) H → Env K ws (fun a => B0 a ∨ a ∈ F) sl w σ H → F.Nodup →
    (∀ a ∈ F, H0 a = none ∧ ¬ Bad ws B0 sl σ a) → SRs K ws (Bad ws (fun a => B0 a ∨ a ∈ F) sl σ) H vs xs F → Le ws0 (Own sl0 σ0) H0 ws (Own (puts is xs sl) (setV is vs σ)) H ∧ Env K ws B0 (puts is xs sl) w (setV is vs σ) H
  | [], vs, xs, F, sl, w, σ, hl, l, e, nd, hF, sr => by
    cases sr with
    | nil => exact ⟨l, e.fewer fun a z => .inl z⟩
    | va _ _ => cases hl
    | ow _ _ _ => cases hl
  | i :: is, vs0, xs0, F, sl, w, σ, hl, l, e, nd, hF, sr0 => by
   cases sr0 with
   | nil => cases hl
   | @va v d vs xs _ r sr =>
    obtain ⟨l1, e1⟩ := e.put (i := i) r
    have hb : ∀ a, Bad ws (fun a => B0 a ∨ a ∈ F) (sl.set i (.va d)) (σ.set i (some v)) a → Bad ws (fun a => B0 a ∨ a ∈ F) sl σ a := fun a z => z.imp id fun z => z.imp id fun z => by
      obtain ⟨j, dj, h1, h2⟩ := z
      rcases get_set h1 with ⟨_, z, _⟩ | ⟨n, h1⟩
      · cases z
      · rw [List.getElem?_set_ne (Ne.symm n)] at h2
        exact ⟨j, dj, h1, h2⟩
    refine puts_ok is _ _ _ _ _ _ (by simpa using hl) (l.trans l1) e1 nd (fun a ha => ⟨(hF a ha).1, fun z => (hF a ha).2 ?_⟩) (sr.mono hb)
    rcases z with z | z | ⟨j, dj, h1, h2⟩
    · exact .inl z
    · exact .inr (.inl z)
    · rcases get_set h1 with ⟨_, z, _⟩ | ⟨n, h1⟩
      · cases z
      · rw [List.getElem?_set_ne (Ne.symm n)] at h2
        exact .inr (.inr ⟨j, dj, h1, h2⟩)
   | @ow p o d vs xs F hp ho sr =>
    obtain ⟨npF, nd'⟩ := List.nodup_cons.mp nd
    obtain ⟨h0, nb⟩ := hF p List.mem_cons_self
    have e' : Env K ws (fun a => (B0 a ∨ a ∈ F) ∨ a = p) sl w σ H := e.fewer fun a z => by
      rcases z with (z | z) | z
      · exact .inl z
      · exact .inr (List.mem_cons_of_mem _ z)
      · rw [z]; exact .inr List.mem_cons_self
    have nb' : ¬ Bad ws (fun a => B0 a ∨ a ∈ F) sl σ p := fun z => by
      rcases z with z | z | z
      · exact nb (.inl z)
      · rcases z with z | z
        · exact nb (.inr (.inl z))
        · exact npF z
      · exact nb (.inr (.inr z))
    have bb : ∀ a, Bad ws (fun a => (B0 a ∨ a ∈ F) ∨ a = p) sl σ a → Bad ws (fun a => B0 a ∨ a ∈ p :: F) sl σ a := fun a z => z.imp id fun z => z.imp (fun z => by
      rcases z with (z | z) | z
      · exact .inl z
      · exact .inr (List.mem_cons_of_mem _ z)
      · rw [z]; exact .inr List.mem_cons_self) id
    have ho' : ON K ws (Bad ws (fun a => (B0 a ∨ a ∈ F) ∨ a = p) sl σ) H o d := by
      cases d <;> first
        | exact ho.elim
        | (obtain ⟨vs, r1, r2, r3⟩ := ho; exact ⟨vs, r1, r2, r3.keep ws.le_refl (fun _ _ z _ => z) fun a z => .inl (bb a z)⟩)
    obtain ⟨l1, e1⟩ := e'.adopt (i := i) h0 hp nb' l ho'
    have hO : ∀ a, Own (sl.set i (.ow d)) (σ.set i (some (.ref p))) a → Own sl σ a ∨ a = p := fun a ⟨j, dj, h1, h2⟩ => by
      rcases get_set h1 with ⟨rfl, z, hl⟩ | ⟨n, h1⟩
      · rw [List.getElem?_set_self (by rw [← e.len]; exact hl)] at h2
        cases h2; exact .inr rfl
      · rw [List.getElem?_set_ne (Ne.symm n)] at h2
        exact .inl ⟨j, dj, h1, h2⟩
    refine puts_ok is _ _ _ _ _ _ (by simpa using hl) l1 e1 nd' (fun a ha => ⟨(hF a (List.mem_cons_of_mem _ ha)).1, fun z => ?_⟩) (sr.mono fun a z => ?_)
    · rcases z with z | z | z
      · exact (hF a (List.mem_cons_of_mem _ ha)).2 (.inl z)
      · exact (hF a (List.mem_cons_of_mem _ ha)).2 (.inr (.inl z))
      · rcases hO a z with z | z
        · exact (hF a (List.mem_cons_of_mem _ ha)).2 (.inr (.inr z))
        · rw [z] at ha; exact npF ha
    · rcases z with z | z | z
      · exact .inl z
      · rcases z with z | z
        · exact .inr (.inl (.inl z))
        · exact .inr (.inl (.inr (List.mem_cons_of_mem _ z)))
      · rcases hO a z with z | z
        · exact .inr (.inr z)
        · rw [z]; exact .inr (.inl (.inr List.mem_cons_self))
theorem SRs.length {K : PySem.W.Frag} {ws : Wa} {B : Addr → Prop} {H : Hp} {vs : List V} {xs : List Sl} {F : List Addr} (h : SRs K ws B H vs xs F) : vs.length = xs.length := by
  induction h with
  | nil => rfl
  | va _ _ ih => simp [ih]
  | ow _ _ _ ih => simp [ih]
/-- so many contents are told -/
def CntH (n : Nat) (h : Hk) : Prop := ∀ sl k k', (∀ xs, xs.length = n → k xs = k' xs) → h sl k = h sl k'
theorem cnh_nil : CntH 0 (fun _ k => k []) := fun sl k k' h => h [] rfl
theorem cnh_va {n : Nat} {f : Dn} {r : Hk} (h : CntH n r) : CntH (n + 1) (fun sl k => (f sl).bind fun d => r sl fun xs => k (.va d :: xs)) := fun sl k k' q => by
  show M.bind _ _ = M.bind _ _
  congr 1
  funext d
  exact h sl _ _ fun xs hx => q _ (by simp [hx])
theorem cnh_ow {n : Nat} {f : Dn} {r : Hk} (h : CntH n r) : CntH (n + 1) (fun sl k => (f sl).bind fun d => r sl fun xs => k (.ow d :: xs)) := fun sl k k' q => by
  show M.bind _ _ = M.bind _ _
  congr 1
  funext d
  exact h sl _ _ fun xs hx => q _ (by simp [hx])
/-- from a statement that sets slots from values -/
theorem par_go {K : PySem.W.Frag} {mg : Str → Option Value} {Wx : WX} {is : List Nat} {h : Hk} (hn : CntH is.length h) (D0 : Ends) (σ : L2.St) (H : Hp) (q : tS K mg Wx (fun nx _ _ sl => h sl fun xs => nx (puts is xs sl)) D0 σ H) : tH K mg Wx h σ H (fun vs H' => vs.length = is.length ∧ D0.nx (setV is vs σ) H') := by
  obtain ⟨ws, B0, sl, w, nx, bk, ct, e, q⟩ := q
  have q : Ans K mg Wx ws B0 sl σ H (h sl (fun xs => nx (puts is xs sl)) w) nx bk ct D0 := q
  rw [hn sl (fun xs => nx (puts is xs sl)) (fun xs => if xs.length = is.length then nx (puts is xs sl) else M.bad) fun xs hx => by simp [hx]] at q
  refine ⟨ws, B0, sl, w, _, _, nx, bk, ct, D0, e, rfl, q, fun ws' w' H' vs F xs l e' nd hF sr qk => ?_⟩
  by_cases hx : xs.length = is.length
  · rw [if_pos hx] at qk
    obtain ⟨l2, e2⟩ := puts_ok _ _ _ _ _ _ _ hx.symm l e' nd hF sr
    exact ⟨by rw [sr.length]; exact hx, q.nx _ _ _ _ _ l2 e2 qk⟩
  · rw [if_neg hx] at qk
    exact absurd qk.symm q.nb
section
variable {X : Cx} {Wx : WX} {a b c : Expr} {i j l : Nat} {x y z : Str} {px py pz pt pt2 pos : Pos} {kt k2 : Nat} {h : Hk}
theorem tH_imp {K : PySem.W.Frag} {mg : Str → Option Value} {σ : L2.St} {H : Hp} {Q Q' : List V → Hp → Prop} (q : tH K mg Wx h σ H Q) (f : ∀ vs H', Q vs H' → Q' vs H') : tH K mg Wx h σ H Q' := by
  obtain ⟨ws, B0, sl, w, k, r0, nx, bk, ct, D0, e, q, h, g⟩ := q
  exact ⟨ws, B0, sl, w, k, r0, nx, bk, ct, D0, e, q, h, fun ws' w' H' vs F xs l e' nd hF sr qk => f _ _ (g ws' w' H' vs F xs l e' nd hF sr qk)⟩
theorem ms_par2 (hN : X.N.Nodup) (hi : X.N[i]? = some x) (hj : X.N[j]? = some y) (hij : i ≠ j) (hx : X.env.scope.names.lookup x = some .local) (hy : X.env.scope.names.lookup y = some .local) (ha : PHm X Wx [a, b] h) (hn : CntH 2 h)
    (hw : swappedStores [.Tuple [.Name x px, .Name y py] kt pt] (.Tuple [a, b] k2 pt2) X.env = pure (some [x, y]) := by rfl)
    (hs : swapsWithSole [.Tuple [.Name x px, .Name y py] kt pt] (.Tuple [a, b] k2 pt2) pos.line X.env = pure false := by rfl) (hc : X.calm = true := by rfl) :
    PSm X Wx (.Assign [.Tuple [.Name x px, .Name y py] kt pt] (.Tuple [a, b] k2 pt2) pos) (fun nx _ _ sl => h sl fun xs => nx (puts [i, j] xs sl)) := by
  refine (ps_par hc hN hi hj hij hx hy ha hw hs).mimp fun D0 σ H q => ?_
  refine tH_imp (par_go (is := [i, j]) hn D0 σ H q) fun vs H' ⟨hl, q⟩ => ?_
  match vs, hl with
  | [v, w], _ => exact ⟨v, w, rfl, q⟩
theorem ms_par3 (hN : X.N.Nodup) (hi : X.N[i]? = some x) (hj : X.N[j]? = some y) (hl : X.N[l]? = some z) (hij : i ≠ j) (hil : i ≠ l) (hjl : j ≠ l) (hx : X.env.scope.names.lookup x = some .local) (hy : X.env.scope.names.lookup y = some .local) (hz : X.env.scope.names.lookup z = some .local) (ha : PHm X Wx [a, b, c] h) (hn : CntH 3 h)
    (hw : swappedStores [.Tuple [.Name x px, .Name y py, .Name z pz] kt pt] (.Tuple [a, b, c] k2 pt2) X.env = pure (some [x, y, z]) := by rfl)
    (hs : swapsWithSole [.Tuple [.Name x px, .Name y py, .Name z pz] kt pt] (.Tuple [a, b, c] k2 pt2) pos.line X.env = pure false := by rfl) (hc : X.calm = true := by rfl) :
    PSm X Wx (.Assign [.Tuple [.Name x px, .Name y py, .Name z pz] kt pt] (.Tuple [a, b, c] k2 pt2) pos) (fun nx _ _ sl => h sl fun xs => nx (puts [i, j, l] xs sl)) := by
  refine (ps_par3 hc hN hi hj hl hij hil hjl hx hy hz ha hw hs).mimp fun D0 σ H q => ?_
  refine tH_imp (par_go (is := [i, j, l]) hn D0 σ H q) fun vs H' ⟨hl, q⟩ => ?_
  match vs, hl with
  | [u, v, w], _ => exact ⟨u, v, w, rfl, q⟩
end
end Pm
namespace Pm
open PySem PySem.Spec PyProof.Rows L2

/-! ### builtins by name -/
section
variable {X : Cx} {Wx : WX} {a b c e : Expr} {es : List Expr} {pos p p' : Pos} {g : An}
theorem m_len (ha : PArm X Wx [a] g) (hm : X.mg "len" = none) (hg : Gl X "len" := by rfl) (he : starEach [a] X.env = (false, eval a X.env) :: starEach [] X.env := by rfl) : PEm X Wx (.Call (.Name "len" p) [a] [] pos) (fun sl => fCB lenF (g sl)) :=
  m_callB call_len cs_len ct_len hg hm PySem.boot_len ha (by decide) (by decide) he rfl
theorem m_abs (ha : PArm X Wx [a] g) (hm : X.mg "abs" = none) (hg : Gl X "abs" := by rfl) (he : starEach [a] X.env = (false, eval a X.env) :: starEach [] X.env := by rfl) : PEm X Wx (.Call (.Name "abs" p) [a] [] pos) (fun sl => fCB absF (g sl)) :=
  m_callB call_abs cs_abs ct_abs hg hm (by decide +kernel) ha (by decide) (by decide) he rfl
theorem m_sum (hc : X.calm = true) (ha : PArm X Wx [a] g) (hm : X.mg "sum" = none) (hg : Gl X "sum" := by rfl) (he : starEach [a] X.env = (false, eval a X.env) :: starEach [] X.env := by rfl) : PEm X Wx (.Call (.Name "sum" p) [a] [] pos) (fun sl => fCB sumF (g sl)) :=
  m_callB (cr_sum hc) cs_sum ct_sum hg hm (by decide +kernel) ha (by decide) (by decide) he rfl
theorem m_all (hc : X.calm = true) (ha : PArm X Wx [a] g) (hm : X.mg "all" = none) (hg : Gl X "all" := by rfl) (he : starEach [a] X.env = (false, eval a X.env) :: starEach [] X.env := by rfl) : PEm X Wx (.Call (.Name "all" p) [a] [] pos) (fun sl => fCB allF (g sl)) :=
  m_callB (cr_all hc) cs_all ct_all hg hm (by decide +kernel) ha (by decide) (by decide) he rfl
theorem m_any (hc : X.calm = true) (ha : PArm X Wx [a] g) (hm : X.mg "any" = none) (hg : Gl X "any" := by rfl) (he : starEach [a] X.env = (false, eval a X.env) :: starEach [] X.env := by rfl) : PEm X Wx (.Call (.Name "any" p) [a] [] pos) (fun sl => fCB anyF (g sl)) :=
  m_callB (cr_any hc) cs_any ct_any hg hm (by decide +kernel) ha (by decide) (by decide) he rfl
theorem m_int1 (ha : PArm X Wx [a] g) (hm : X.mg "int" = none) (hg : Gl X "int" := by rfl) (he : starEach [a] X.env = (false, eval a X.env) :: starEach [] X.env := by rfl) : PEm X Wx (.Call (.Name "int" p) [a] [] pos) (fun sl => fCB intF (g sl)) :=
  m_callTy call_int1 cs_int ct_int hg hm (by decide +kernel) ha (by decide) (by decide) he rfl
theorem m_tuple (ha : PArm X Wx [a] g) (hm : X.mg "tuple" = none) (hg : Gl X "tuple" := by rfl) (he : starEach [a] X.env = (false, eval a X.env) :: starEach [] X.env := by rfl) : PEm X Wx (.Call (.Name "tuple" p) [a] [] pos) (fun sl => fCB tupF (g sl)) :=
  m_callTy call_tuple_of cs_tup ct_tup hg hm (by decide +kernel) ha (by decide) (by decide) he rfl
theorem m_list (ha : PArm X Wx [a] g) (hm : X.mg "list" = none) (hg : Gl X "list" := by rfl) (he : starEach [a] X.env = (false, eval a X.env) :: starEach [] X.env := by rfl) : PEm X Wx (.Call (.Name "list" p) [a] [] pos) (fun sl => fCB lstF (g sl)) :=
  m_callTy call_list_of cs_lst ct_lst hg hm (by decide +kernel) ha (by decide) (by decide) he rfl
theorem m_max (hc : X.calm = true) (hu : X.A.units + 64 < cLine) (ha : PArm X Wx (e :: es) g) (hm : X.mg "max" = none) (hg : Gl X "max" := by rfl) (he : starEach (e :: es) X.env = (false, eval e X.env) :: starEach es X.env := by rfl) (hpl : (backTo pos (starEach es X.env)).any (·.1) = false := by rfl) : PEm X Wx (.Call (.Name "max" p) (e :: es) [] pos) (fun sl => fCB maxF (g sl)) :=
  m_callB (call_maxM hc hu) cs_big ct_big hg hm (by decide +kernel) ha (by decide) (by decide) he hpl
theorem m_min (hc : X.calm = true) (hu : X.A.units + 64 < cLine) (ha : PArm X Wx (e :: es) g) (hm : X.mg "min" = none) (hg : Gl X "min" := by rfl) (he : starEach (e :: es) X.env = (false, eval e X.env) :: starEach es X.env := by rfl) (hpl : (backTo pos (starEach es X.env)).any (·.1) = false := by rfl) : PEm X Wx (.Call (.Name "min" p) (e :: es) [] pos) (fun sl => fCB minF (g sl)) :=
  m_callB (call_minM hc hu) cs_big ct_big hg hm (by decide +kernel) ha (by decide) (by decide) he hpl
theorem m_isiN {T : String} {x : Str} {f : Dn} (ha : PRm X Wx a f) (hm : X.mg "isinstance" = none) (hx : X.mg x = none) (hgx : Gl X x) (hb : bootBuiltins x = some (.type T)) (hn : x ≠ "__name__" := by decide) (hd : (x == ("__debug__" : Str)) = false := by decide) (hg : Gl X "isinstance" := by rfl)
    (he : starEach (a :: [.Name x p']) X.env = (false, eval a X.env) :: starEach [.Name x p'] X.env := by rfl) (hpl : (backTo pos (starEach [.Name x p'] X.env)).any (·.1) = false := by rfl)
    (hs : starEach (.Name x p' :: []) X.env = (false, eval (.Name x p') X.env) :: starEach [] X.env := by rfl) : PEm X Wx (.Call (.Name "isinstance" p) [a, .Name x p'] [] pos) (fun sl => fIsi T (f sl)) :=
  m_isi ha hm (pe_bltn hgx hx hb rfl hn hd) hg he hpl hs
end

/-! ### the world's list -/
def newTown : M D := fun w => match w.town with
  | none => .ok .town ⟨some [], w.objs⟩
  | some _ => .bad
def twLen (x : D) : M D := fun w => match x, w.town with
  | .town, some l => .ok (.int l.length) w
  | _, _ => .bad
def twAt0 (x : D) : M D := fun w => match x, w.town with
  | .town, some (k :: _) => .ok (.int k) w
  | _, _ => .bad
def twTru (x : D) : M Bool := fun w => match x, w.town with
  | .town, some l => .ok (!l.isEmpty) w
  | _, _ => .bad
def twApp (x a : D) : M D := fun w => match x, a, w.town with
  | .town, .int k, some l => if l.length < sizeLine then .ok .non ⟨some (l ++ [k]), w.objs⟩ else .bad
  | _, _, _ => .bad
def twSet0 (x a : D) : M D := fun w => match x, a, w.town with
  | .town, .int k, some (_ :: l) => .ok .non ⟨some (k :: l), w.objs⟩
  | _, _, _ => .bad
section
variable {X : Cx} {Wx : WX} {e : Expr} {pos pos' p np apos cpos tpos : Pos} {x : Str} {f : Dn}
theorem town_at {K : PySem.W.Frag} {ws : Wa} {B0 : Addr → Prop} {sl : Ls} {w : W} {σ : L2.St} {H : Hp} {v : V} {B : Addr → Prop} {l : List Int} (e : Env K ws B0 sl w σ H) (hv : DR K ws B H v .town) (hl : w.town = some l) : ∃ a, v = .ref a ∧ ws.town = some a ∧ H a = some (.lst (l.map V.int)) := by
  cases hv with
  | town h =>
    have hw := e.wr.1
    unfold TW at hw
    rw [hl, h] at hw
    exact ⟨_, rfl, h, hw⟩
theorem nVar_at {K : PySem.W.Frag} {mg : Str → Option Value} {ws : Wa} {B0 : Addr → Prop} {sl : Ls} {w : W} {σ : L2.St} {H : Hp} {i : Nat} {α : Type} {g : D → M α} {k : Wa → W → α → Hp → Prop} (e : Env K ws B0 sl w σ H) (h : runAt K mg Wx ws B0 sl σ H (M.bind (nVar i sl) g w) k) : ∃ d v, σ[i]? = some (some v) ∧ DR K ws (Bad ws B0 sl σ) H v d ∧ runAt K mg Wx ws B0 sl σ H (g d w) k := by
  unfold nVar at h
  cases q : sl[i]? with
  | none => rw [q] at h; exact h.elim
  | some z =>
    rw [q] at h
    cases z with
    | no => exact h.elim
    | ow d => exact h.elim
    | va d =>
      obtain ⟨v, h1, h2⟩ := e.va i d q
      exact ⟨d, v, h1, h2, h⟩
theorem ms_town (i : Nat) (hN : X.N.Nodup) (hi : X.N[i]? = some x := by rfl) (hx : L2.Loc X.env.scope x := by first | exact Or.inl rfl | exact Or.inr rfl) (hs : swapsWith (.List [] p) (some (.Name x pos')) pos.line X.env = pure false := by rfl)
    (hf : X.fn x = true ∨ X.env.scope.names.lookup x = some .local := by first | exact .inl rfl | exact .inr rfl) : PSm X Wx (.Assign [.Name x pos'] (.List [] p) pos) (fun nx _ _ sl => newTown.bind fun d => nx (sl.set i (.va d))) := by
  refine (ps_set hN hi hx (pe_lst pa_nil) hs hf).mimp fun D0 σ H ⟨ws, B0, sl, w, nx, bk, ct, e, h⟩ => ?_
  refine ⟨by show 0 ≤ sizeLine; exact Nat.zero_le _, fun p hp => ?_⟩
  have h : Ans X.K X.mg Wx ws B0 sl σ H (M.bind newTown (fun d => nx (sl.set i (.va d))) w) nx bk ct D0 := h
  unfold M.bind newTown at h
  cases q : w.town with
  | some l => rw [q] at h; exact absurd rfl h.nb
  | none =>
    rw [q] at h
    obtain ⟨l1, e1⟩ := e.mkTown q hp
    obtain ⟨l2, e2⟩ := e1.put (i := i) (v := .ref p) (d := .town) (.town rfl)
    exact h.nx _ _ _ _ _ (l1.trans l2) e2 rfl
theorem m_twLen (i : Nat) (hm : X.mg "len" = none) (hN : X.N[i]? = some x := by rfl) (hv : Vis X.env.scope x := by first | exact Or.inl rfl | exact Or.inr (Or.inl rfl) | exact Or.inr (Or.inr rfl)) (hd : (x == ("__debug__" : Str)) = false := by decide)
    (hcd : (x == ("__classdict__" : Str)) = false := by decide) (hg : Gl X "len" := by rfl) (he : starEach [.Name x np] X.env = (false, eval (.Name x np) X.env) :: starEach [] X.env := by rfl) : PEm X Wx (.Call (.Name "len" p) [.Name x np] [] pos) (fun sl => (nVar i sl).bind twLen) := by
  refine (pe_callB call_len hg hm PySem.boot_len (pa_cons (pe_var hN hv hd hcd) pa_nil he) (by decide) (by decide) he rfl).mimp fun σ H Q ⟨ws, B0, sl, w, e, h⟩ => ?_
  obtain ⟨d, v, h1, h2, h⟩ := nVar_at e h
  refine ⟨v, h1, ?_⟩
  cases d <;> first | exact h.elim | skip
  cases q : w.town with
  | none => unfold twLen at h; rw [q] at h; exact h.elim
  | some l =>
    unfold twLen at h
    rw [q] at h
    obtain ⟨a, rfl, ht, hH⟩ := town_at e h2 q
    refine ⟨_, l.length, rfl, .inl ⟨_, .inl (.inl hH), by rw [List.length_map]⟩, runAt.here e h _ (.int _)⟩
theorem m_twAt0 (i : Nat) (hN : X.N[i]? = some x := by rfl) (hv : Vis X.env.scope x := by first | exact Or.inl rfl | exact Or.inr (Or.inl rfl) | exact Or.inr (Or.inr rfl)) (hd : (x == ("__debug__" : Str)) = false := by decide)
    (hcd : (x == ("__classdict__" : Str)) = false := by decide) {j : Nat} {p0 : Pos} (hs : PlainIx (.Constant (.int 0) j p0) := by exact fun _ _ => rfl) : PEm X Wx (.Subscript (.Name x np) (.Constant (.int 0) j p0) pos) (fun sl => (nVar i sl).bind twAt0) := by
  refine (pe_ix ix_seq (pe_var hN hv hd hcd) pe_int hs).mimp fun σ H Q ⟨ws, B0, sl, w, e, h⟩ => ?_
  obtain ⟨d, v, h1, h2, h⟩ := nVar_at e h
  refine ⟨v, h1, ?_⟩
  cases d <;> first | exact h.elim | skip
  cases q : w.town with
  | none => unfold twAt0 at h; rw [q] at h; exact h.elim
  | some l =>
    unfold twAt0 at h
    rw [q] at h
    cases l with
    | nil => exact h.elim
    | cons k l =>
      obtain ⟨a, rfl, ht, hH⟩ := town_at e h2 q
      refine .inl ⟨a, _, 0, .int k, rfl, rfl, .inl (.inl hH), ?_, runAt.here e h _ (.int _)⟩
      rw [List.map_cons]
      simp [atI, ixN]
theorem mt_tw (i : Nat) (hN : X.N[i]? = some x := by rfl) (hv : Vis X.env.scope x := by first | exact Or.inl rfl | exact Or.inr (Or.inl rfl) | exact Or.inr (Or.inr rfl)) (hd : (x == ("__debug__" : Str)) = false := by decide)
    (hcd : (x == ("__classdict__" : Str)) = false := by decide) (he : ∀ whole, isTrue (.Name x np) X.env whole = (do let v ← whole; standAt np; holding [v] (truthy v)) := by intro _; rfl) : PTm X Wx (.Name x np) (fun sl => (nVar i sl).bind twTru) := by
  refine (pt_truth (pe_var hN hv hd hcd) he).mimp fun σ H Q ⟨ws, B0, sl, w, e, h⟩ => ?_
  obtain ⟨d, v, h1, h2, h⟩ := nVar_at e h
  refine ⟨v, h1, ?_⟩
  cases d <;> first | exact h.elim | skip
  cases q : w.town with
  | none => unfold twTru at h; rw [q] at h; exact h.elim
  | some l =>
    unfold twTru at h
    rw [q] at h
    obtain ⟨a, rfl, ht, hH⟩ := town_at e h2 q
    exact ⟨!l.isEmpty, .inl ⟨_, .inl (.inl hH), by cases l <;> rfl⟩, runAt.here e h⟩
theorem ms_twApp (i : Nat) (he : PEm X Wx e f) (hN : X.N[i]? = some x := by rfl) (hv : Vis X.env.scope x := by first | exact Or.inl rfl | exact Or.inr (Or.inl rfl) | exact Or.inr (Or.inr rfl)) (hd : (x == ("__debug__" : Str)) = false := by decide)
    (hcd : (x == ("__classdict__" : Str)) = false := by decide) (hbase : attributeBase (.Name x np) "append" X.env (eval (.Name x np) X.env) = eval (.Name x np) X.env := by rfl)
    (hfew : ((backTo cpos (starEach (e :: []) X.env)).all (fun x => !x.1) && (backToKw cpos (keywordEach [] X.env)).all (fun x => x.1.isSome)
      && decide ((e :: ([] : List Expr)).length + ([] : List Keyword).length + (if ([] : List Keyword).isEmpty then 0 else 1) < 30)) = true := by rfl)
    (hline : (apos.endLine == cpos.line) = true := by rfl) (hs : starEach (e :: []) X.env = (false, eval e X.env) :: starEach [] X.env := by rfl) (hplain : (backTo cpos (starEach [] X.env)).any (·.1) = false := by rfl)
    (hsw : swapsWith (.Call (.Attribute (.Name x np) "append" apos) [e] [] cpos) none pos.line X.env = pure false := by rfl) :
    PSm X Wx (.Expr (.Call (.Attribute (.Name x np) "append" apos) [e] [] cpos) pos) (fun nx _ _ sl => nVaK i sl fun o => (twTru o).bind fun _ => (f sl).bind fun a => (twApp o a).bind fun _ => nx sl) := by
  refine (ps_expr (pe_bm PySem.F.plainAttrs_list PySem.F.slot_list_append PySem.F.type_list_append mt_append (pe_var hN hv hd hcd) (pa_cons he pa_nil hs) hbase hfew hline hs hplain) hsw).mimp fun D0 σ H ⟨ws, B0, sl, w, nx, bk, ct, e, h⟩ => ?_
  obtain ⟨d, hd, h⟩ := nVaK_of h
  obtain ⟨v, h1, h2⟩ := e.va i d hd
  cases d <;> first | exact absurd rfl h.nb | skip
  unfold M.bind twTru at h
  cases q : w.town with
  | none => rw [q] at h; exact absurd rfl h.nb
  | some l =>
    rw [q] at h
    simp only at h
    obtain ⟨a, rfl, ht, hH⟩ := town_at e h2 q
    refine ⟨_, h1, .inl ⟨rfl, _, .inl (.inl hH)⟩, ws, B0, sl, w, e, (Ans.bind (g := fun a => (twApp .town a).bind fun _ => nx sl) h).mono fun ws1 w1 b H1 l1 e1 h3 u hu => ?_⟩
    cases b <;> first | exact absurd rfl h3.nb | skip
    rename_i kk
    unfold M.bind twApp at h3
    cases q1 : w1.town with
    | none => rw [q1] at h3; exact absurd rfl h3.nb
    | some l2 =>
      rw [q1] at h3
      simp only at h3
      by_cases hz : l2.length < sizeLine
      · rw [if_pos hz] at h3
        obtain ⟨a', ha', ht', hH'⟩ := town_at e1 (h2.le l1) q1
        cases ha'
        cases hu
        obtain ⟨l5, e5⟩ := e1.mutTown (l' := l2 ++ [kk]) q1 ht'
        refine ⟨a, _, _, rfl, rfl, hH', by rw [List.length_map]; exact hz, ?_⟩
        have := h3.nx _ _ _ _ _ l5 e5 rfl
        rw [List.map_append] at this
        exact this
      · rw [if_neg hz] at h3
        exact absurd rfl h3.nb
theorem ms_twSet (i : Nat) {j : Nat} {p0 : Pos} (he : PEm X Wx e f) (hN : X.N[i]? = some x := by rfl) (hv : Vis X.env.scope x := by first | exact Or.inl rfl | exact Or.inr (Or.inl rfl) | exact Or.inr (Or.inr rfl)) (hd : (x == ("__debug__" : Str)) = false := by decide)
    (hcd : (x == ("__classdict__" : Str)) = false := by decide)
    (ha : ∀ v, assign (.Subscript (.Name x np) (.Constant (.int 0) j p0) tpos) X.env v = (do
      let ov ← holding [v] (eval (.Name x np) X.env)
      let iv ← holding [v, ov] (eval (.Constant (.int 0) j p0) X.env)
      standAt tpos
      holding [v, ov, iv] (setItem ov iv v)
      release [v, ov, iv] []) := by intro _; rfl)
    (hs : swapsWithSole [.Subscript (.Name x np) (.Constant (.int 0) j p0) tpos] e pos.line X.env = pure false := by rfl) (hw : swappedStores [.Subscript (.Name x np) (.Constant (.int 0) j p0) tpos] e X.env = pure none := by rfl)
    (h1 : (assignEach [.Subscript (.Name x np) (.Constant (.int 0) j p0) tpos] X.env).map (·.2) = [assign (.Subscript (.Name x np) (.Constant (.int 0) j p0) tpos) X.env] := by rfl) :
    PSm X Wx (.Assign [.Subscript (.Name x np) (.Constant (.int 0) j p0) tpos] e pos) (fun nx _ _ sl => (f sl).bind fun a => nVaK i sl fun o => (twSet0 o a).bind fun _ => nx sl) := by
  refine (ps_asg he (pg_sub (pe_var hN hv hd hcd) pe_int set_list ha) hs hw h1).mimp fun D0 σ H ⟨ws, B0, sl, w, nx, bk, ct, e, q⟩ => ?_
  refine ⟨ws, B0, sl, w, e, (Ans.bind q).mono fun ws1 w1 v H1 l1 e1 q1 u hu => ?_⟩
  obtain ⟨d, hd, h3⟩ := nVaK_of q1
  obtain ⟨r, p1, p2⟩ := e1.va i d hd
  refine ⟨r, p1, ?_⟩
  unfold M.bind twSet0 at h3
  cases d <;> first | exact absurd rfl h3.nb | skip
  cases v <;> first | exact absurd rfl h3.nb | skip
  rename_i kk
  cases q2 : w1.town with
  | none => rw [q2] at h3; exact absurd rfl h3.nb
  | some l2 =>
    rw [q2] at h3
    cases l2 with
    | nil => exact absurd rfl h3.nb
    | cons k0 l2 =>
      simp only at h3
      obtain ⟨a', rfl, ht', hH'⟩ := town_at e1 p2 q2
      cases hu
      obtain ⟨l5, e5⟩ := e1.mutTown (l' := kk :: l2) q2 ht'
      refine ⟨a', _, 0, 0, rfl, rfl, hH', by simp [ixN], ?_⟩
      exact h3.nx _ _ _ _ _ l5 e5 rfl
end

/-! ### defs -/
/-- the def x as the top has written it -/
def Df (K : PySem.W.Frag) (mg : Str → Option Value) (x : Str) (st : Stmt) (ps : List Str) : Prop := ∃ f fd, Fun K x x st f fd ∧ mg x = some (.ref f) ∧ ∀ us : List Value, us.length = ps.length → bindArgs fd ⟨us, []⟩ = pure (ps.zip us)
/-- the def x keeps the contract m, k calls deep -/
def Cal (P : Program) (w : World) (K : PySem.W.Frag) (mg : Str → Option Value) (base : Heap) (k : Nat) (x : Str) (ps : List Str) (m : Mf) : Prop := ∃ f fd, mg x = some (.ref f) ∧ PySem.W.keepIn K (.ref f) = true ∧ Binds K fd ps [] ∧ FnOk P w K mg base (L2.CX P w) k f fd ps (spF K mg ps.length m)
section
variable {P : Program} {w : World} {K : PySem.W.Frag} {mg : Str → Option Value} {base : Heap}
theorem df_mk {x : Str} {st : Stmt} {f : Addr} {h : Heap} {ps : List Str} {oc : Value} {od an : Option Addr} {osl : Array (Option Value)} {kV doc pm cdv ct : Value} (X : K.In h) (G : h.Ns mainGlobals mg) (a : PySem.W.nsIn K mainGlobals x = some (some (.ref f)))
    (l : K.lookup f = some ⟨oc, od, .func (PySem.W.fnOf x x (defArgs st) (defBody st) (defScope st) .none kV doc pm an cdv ct), osl⟩) (c : PySem.W.codeIn K cdv x = true) (k : PySem.W.keepIn K (.ref f) = true)
    (hb : ∀ (kV doc pm : Value) (an : Option Addr) (cdv ct : Value) (us : List Value), us.length = ps.length → bindArgs (PySem.W.fnOf x x (defArgs st) (defBody st) (defScope st) .none kV doc pm an cdv ct) ⟨us, []⟩ = pure (ps.zip us)) : Df K mg x st ps := by
  have F := fun_mk (st := st) l c k
  exact ⟨f, _, F, PySem.W.mg_of X G a, hb _ _ _ _ _ _⟩
/-- the body, with what it computes -/
abbrev Bdy (P : Program) (w : World) (K : PySem.W.Frag) (mg : Str → Option Value) (base : Heap) (N : List Str) (np : Nat) (x : Str) (st : Stmt) (k : Nat) (m : Mf) : Prop := ∀ (f : Addr) (cdv : Value) (A : Around) (outer : List PySem.Env) (s : Shared) (H : Hp) (E : XK), Room k (A.deeper (envOfC x (defScope st) s.heap.objs.size f cdv)) →
      ∃ b, PSsm (cxOf (L2.CX P w) P w K mg base N x (defScope st) f cdv A outer s H E) (fun cls d _ H => E cls d H) (defBody st) b ∧ ∀ ds : List D, ds.length = np → runB b N.length ds = m ds
theorem fn_okX {x qual : Str} {st : Stmt} {f : Addr} {fd : FuncData} {N ps : List Str} {k : Nat} {m : Mf} (F : Fun K x qual st f fd) (Sc : FnScope N ps (defScope st))
    (hbody : ∀ (cdv : Value) (A : Around) (outer : List PySem.Env) (s : Shared) (H : Hp) (E : XK), Room k (A.deeper (envOfC qual (defScope st) s.heap.objs.size f cdv)) →
      ∃ b, PSsm (cxOf (L2.CX P w) P w K mg base N qual (defScope st) f cdv A outer s H E) (fun cls d _ H => E cls d H) (defBody st) b ∧ ∀ ds : List D, ds.length = ps.length → runB b N.length ds = m ds) : FnOk P w K mg base (L2.CX P w) (k + 1) f fd ps (spF K mg ps.length m) := by
  refine F.okX Sc (fun vs H Q E h => h.1) fun cdv A outer s H vs Q E hr h => ?_
  obtain ⟨b, hb, hm⟩ := hbody cdv A outer s H E hr
  refine ⟨_, hb, ?_⟩
  obtain ⟨hl, ws, B0, w1, ds, hw, hwd, hd, r, h⟩ := h
  obtain ⟨nO, e⟩ := env_start (N := N) hw hwd hd r
  rw [← hm ds (by rw [← r.length]; exact hl)] at h
  have po : ∀ {σ' : L2.St} {ws' : Wa} {sl' : Ls} {H' : Hp}, Le ws (Own (slStart N.length ds) (L2.start N vs)) H ws' (Own sl' σ') H' → Post ws H ws' H' := fun l =>
    ⟨l.wle, l.new, fun _ z => z.elim, fun a o h1 h2 _ => l.keep a o h1 h2 (nO a), l.ex⟩
  refine ⟨ws, B0, _, w1, fun _ => M.pure .non, fun _ => M.bad, fun _ => M.bad, e, ⟨fun z => ?_, ?_, ?_, ?_, ?_, ?_⟩⟩
  · have z : runB b N.length ds w1 = .bad := z
    rw [z] at h
    exact h
  · intro σ' ws' sl' w' H' l e' q
    have q : runB b N.length ds w1 = .ok .non w' := q.symm
    rw [q] at h
    exact h .non ws' H' (po l) e'.wr .non
  · intro σ' ws' sl' w' H' l e' q
    have q : runB b N.length ds w1 = .bad := q.symm
    rw [q] at h
    exact h.elim
  · intro σ' ws' sl' w' H' l e' q
    have q : runB b N.length ds w1 = .bad := q.symm
    rw [q] at h
    exact h.elim
  · intro d w' q σ' ws' sl' H' v l e' hv
    have q : runB b N.length ds w1 = .ok d w' := q
    rw [q] at h
    exact h v ws' H' (po l) e'.wr hv
  · intro c w' q σ' ws' sl' H' C hC l e'
    have q : runB b N.length ds w1 = .ex c w' := q
    rw [q] at h
    exact h ws' H' C hC (po l) e'.wr
theorem cal_of {x : Str} {st : Stmt} {N ps : List Str} {k np : Nat} {m : Mf} (F : Df K mg x st ps) (Sc : FnScope N ps (defScope st)) (hp : ps.length = np) (hbody : Bdy P w K mg base N np x st k m) : Cal P w K mg base (k + 1) x ps m := by
  obtain ⟨f, fd, F, hg, hb⟩ := F
  subst hp
  exact ⟨f, fd, hg, F.kp, .all hb, fn_okX F Sc (hbody f)⟩
theorem Cal.mono {j k : Nat} {x : Str} {ps : List Str} {m : Mf} (h : Cal P w K mg base j x ps m) (l : j ≤ k) : Cal P w K mg base k x ps m := by
  obtain ⟨f, fd, h1, h2, h3, h4⟩ := h
  exact ⟨f, fd, h1, h2, h3, h4.mono l⟩
/-! ### a def that calls itself -/
def recF (b : Mf → Mf) : Nat → Mf
  | 0 => fun _ => M.bad
  | k + 1 => b (recF b k)
theorem cal_none {x : Str} {st : Stmt} {ps : List Str} {k : Nat} (F : Df K mg x st ps) : Cal P w K mg base k x ps (fun _ => M.bad) := by
  obtain ⟨f, fd, F, hg, hb⟩ := F
  exact ⟨f, fd, hg, F.kp, .all hb, ⟨fun vs H Q E h => h.1, fun A outer s H args us vs Q E hr he hb hv hs => by
    obtain ⟨_, _, _, _, _, _, _, _, _, z⟩ := hs
    exact z.elim⟩⟩
theorem cal_rec {x : Str} {st : Stmt} {N ps : List Str} {np d : Nat} {b : Mf → Mf} (F : Df K mg x st ps) (Sc : FnScope N ps (defScope st)) (hp : ps.length = np)
    (hbody : ∀ j : Nat, Cal P w K mg base (d + j) x ps (recF b j) → Bdy P w K mg base N np x st (d + j) (b (recF b j))) : ∀ j : Nat, Cal P w K mg base (d + j) x ps (recF b j)
  | 0 => cal_none F
  | j + 1 => cal_of F Sc hp (hbody j (cal_rec F Sc hp hbody j))
end
section
variable {X : Cx} {Wx : WX} {e : Expr} {es : List Expr} {pos p : Pos} {x : Str} {g : An}
theorem m_cal {k np : Nat} {ps : List Str} {m : Mf} (C : Cal X.prog X.w X.K X.mg X.base k x ps m) (hp : ps.length = np) (hr : Room k X.A) (tk : Takes X Wx) (ha : PAm X Wx (e :: es) g) (hn : Cnt np g)
    (hg : Gl X x := by rfl) (hdb : (x == ("__debug__" : Str)) = false := by decide) (he : starEach (e :: es) X.env = (false, eval e X.env) :: starEach es X.env := by rfl) (hpl : (backTo pos (starEach es X.env)).any (·.1) = false := by rfl) :
    PEm X Wx (.Call (.Name x p) (e :: es) [] pos) (fun sl => fCall m (g sl)) := by
  obtain ⟨f, fd, h1, h2, h3, h4⟩ := C
  subst hp
  exact m_call h4 hn hr h1 h2 h3 tk ha hg hdb he hpl
end

/-! ### the law -/
/-- the makers' tables, over the base -/
def TBs (K : PySem.W.Frag) (mg : Str → Option Value) (base : Heap) : Prop := ∀ x ∈ makers, ∀ p, codeTab K x.1 = some p → LamX.TabB base mg p.1 p.2
def spLaw (K : PySem.W.Frag) : Sp := fun vs H Q _ => ∃ (a : Addr) (ns : List Int), vs = [.ref a] ∧ SqL K H a (ns.map V.int) ∧ ns.length ≤ 63 ∧ LamX.Tabs (tabsK K) H ∧ ∀ H', Q (.bl true) H'
theorem law_of {P : Program} {w : World} {K : PySem.W.Frag} {mg : Str → Option Value} {fa : Addr} {k : Nat} {x : Str} {m : Mf} {N : List Str} {st : Stmt} (hfa : mg "law" = some (.ref fa)) (F : Df K mg "law" st [x]) (Sc : FnScope N [x] (defScope st))
    (hm : ∀ ns : List Int, ns.length ≤ 63 → ∃ w', m [.scr ns] ⟨none, []⟩ = .ok (.bl true) w')
    (hbody : ∀ base : Heap, K.In base → base.Ns mainGlobals mg → TBs K mg base → Bdy P w K mg base N 1 "law" st k m) :
    ∃ fd : FuncData, (∀ (s : Shared) (u : Value), BindsTo s fd ⟨[u], []⟩ [(x, u)]) ∧ ∀ base : Heap, K.In base → base.Ns mainGlobals mg → TBs K mg base → FnOk P w K mg base (L2.CX P w) (k + 1) fa fd [x] (spLaw K) := by
  obtain ⟨f, fd, F, hg, hb⟩ := F
  cases hfa.symm.trans hg
  refine ⟨fd, fun s u => .of_eq (hb [u] rfl), fun base hB hG hTB => (fn_okX (m := m) F Sc (hbody base hB hG hTB fa)).imp fun vs H Q E h => ?_⟩
  obtain ⟨a, ns, rfl, hS, hl, hT, q⟩ := h
  obtain ⟨w', hw⟩ := hm ns hl
  have nT : ∀ {u : HO}, Rd H a u → (∀ ps, u ≠ .tbl ps) → a ∉ (tabsK K).map (·.1) := fun {u} r n z => by
    obtain ⟨p, hp, rfl⟩ := List.mem_map.mp z
    obtain ⟨ps, h1, _⟩ := hT p hp
    rcases r with r | ⟨o, r⟩
    · rw [h1] at r; cases r; exact n _ rfl
    · rw [h1] at r; cases r
  refine ⟨rfl, ⟨none, (tabsK K).map (·.1), []⟩, fun _ => False, ⟨none, []⟩, [.scr ns], ⟨trivial, ⟨rfl, hT⟩, ⟨rfl, (fun _ _ z => by simp at z), (fun _ z => by simp at z), (fun _ _ _ z => by simp at z), fun _ z => nomatch z⟩⟩, fun a z => z.elim, fun a z => z.elim, .cons (.scr ns ?_) .nil, ?_⟩
  · rcases hS with hS | hS
    · exact .inl ⟨fun z => z.elim (fun z => z.elim (fun z => nomatch z) (fun z => z.elim (nT hS fun ps z => by cases z) fun z => nomatch z)) id, hS⟩
    · exact .inr hS
  · rw [hw]
    intro v ws' H' _ _ hd
    cases hd
    exact q H'
/-! ### constants of the module -/
def Cg (K : PySem.W.Frag) (mg : Str → Option Value) (x : Str) (d : D) : Prop := ∃ v u, mg x = some u ∧ RelV v u ∧ ∀ ws B H, DR K ws B H v d
section
variable {X : Cx} {Wx : WX} {pos : Pos} {x : Str}
theorem m_cst {d : D} (c : Cg X.K X.mg x d) (hg : Gl X x := by rfl) (hdb : (x == ("__debug__" : Str)) = false := by decide) : PEm X Wx (.Name x pos) (fun _ => M.pure d) := by
  obtain ⟨v, u, h1, h2, h3⟩ := c
  exact m_glob hg h1 h2 h3 hdb
theorem cg_int {K : PySem.W.Frag} {mg : Str → Option Value} {h : Heap} {i : Int} {t : Tok} (X : K.In h) (G : h.Ns mainGlobals mg) (a : PySem.W.nsIn K mainGlobals x = some (some (.int i t))) : Cg K mg x (.int i) := ⟨.int i, _, PySem.W.mg_of X G a, ⟨t, rfl⟩, fun _ _ _ => .int i⟩
theorem cg_str {K : PySem.W.Frag} {mg : Str → Option Value} {h : Heap} {i : Str} {t : Tok} (X : K.In h) (G : h.Ns mainGlobals mg) (a : PySem.W.nsIn K mainGlobals x = some (some (.str i t))) : Cg K mg x (.str i) := ⟨.str i, _, PySem.W.mg_of X G a, ⟨t, rfl⟩, fun _ _ _ => .str i⟩
/-- values by data that hold for ever -/
inductive VD (K : PySem.W.Frag) : List Value → List D → Prop
  | nil : VD K [] []
  | int {i : Int} {t : Tok} {us : List Value} {ds : List D} : VD K us ds → VD K (.int i t :: us) (.int i :: ds)
  | str {x : Str} {t : Tok} {us : List Value} {ds : List D} : VD K us ds → VD K (.str x t :: us) (.str x :: ds)
theorem VD.vals {K : PySem.W.Frag} {us : List Value} {ds : List D} (h : VD K us ds) : us.length = ds.length ∧ ∃ vs, Vals vs us ∧ ∀ ws B H, DRs K ws B H vs ds := by
  induction h with
  | nil => exact ⟨rfl, [], .nil, fun _ _ _ => .nil⟩
  | @int i t us ds _ ih => obtain ⟨h0, vs, h1, h2⟩ := ih; exact ⟨by simp [h0], .int i :: vs, .cons ⟨t, rfl⟩ h1, fun ws B H => .cons (.int i) (h2 ws B H)⟩
  | @str i t us ds _ ih => obtain ⟨h0, vs, h1, h2⟩ := ih; exact ⟨by simp [h0], .str i :: vs, .cons ⟨t, rfl⟩ h1, fun ws B H => .cons (.str i) (h2 ws B H)⟩
theorem cg_tup {K : PySem.W.Frag} {mg : Str → Option Value} {h : Heap} {c n : Nat} {od : Option Addr} {sl : Array (Option Value)} {us : List Value} {ds : List D} (X : K.In h) (G : h.Ns mainGlobals mg) (a : PySem.W.nsIn K mainGlobals x = some (some (.ref c))) (l : K.lookup c = some ⟨.type "tuple", od, .seq us.toArray n, sl⟩) (hn : us.length ≤ 1000) (h : VD K us ds) : Cg K mg x (.tup ds) := by
  obtain ⟨h0, vs, h1, h2⟩ := h.vals
  have hz : us.length ≤ sizeLine := Nat.le_trans hn (by decide)
  exact ⟨.ref c, _, PySem.W.mg_of X G a, rfl, fun ws B H => .tup (by rw [← h0]; exact hz) (.inr ⟨_, _, n, l, rfl, rfl, by simpa using hz, h1⟩) (h2 ws B H)⟩
end
/-! ### is None -/
def isND : D → D → Option D
  | x, .non => (match x with | .non => some (.bl true) | .town => none | .fn _ _ _ => none | .obj _ => none | _ => some (.bl false))
  | _, _ => none
def isNND : D → D → Option D
  | x, .non => (match x with | .non => some (.bl false) | .town => none | .fn _ _ _ => none | .obj _ => none | _ => some (.bl true))
  | _, _ => none
theorem isN_dec {K : PySem.W.Frag} {ws : Wa} {B : Addr → Prop} {H : Hp} {x : V} {dx : D} (hx : DW K ws B H x dx) : decide (x = .non) = (match dx with | .non => true | _ => false) := by
  cases dx <;> first
    | (have e : x = _ := hx; subst e; rfl)
    | (obtain ⟨_, a, _, rfl, _⟩ := hx; rfl)
    | (obtain ⟨a, _, rfl, _⟩ := hx; rfl)
    | (obtain ⟨a, rfl, _⟩ := hx; rfl)
    | exact hx.elim
theorem so_isN {K : PySem.W.Frag} : OpS K (fun x y H Q => y = .non ∧ Q (.bl (decide (x = .non))) H) isND := by
  intro ws B H x y dx dy d Q hb hx hy ho q
  cases dy <;> first | (cases ho; done) | skip
  refine ⟨hy, ?_⟩
  rw [isN_dec hx]
  cases dx <;> first | (cases ho; done) | (cases ho; exact q _ _ (Grow.refl H) (.bl _))
theorem so_isNN {K : PySem.W.Frag} : OpS K (fun x y H Q => y = .non ∧ Q (.bl (!decide (x = .non))) H) isNND := by
  intro ws B H x y dx dy d Q hb hx hy ho q
  cases dy <;> first | (cases ho; done) | skip
  refine ⟨hy, ?_⟩
  rw [isN_dec hx]
  cases dx <;> first | (cases ho; done) | (cases ho; exact q _ _ (Grow.refl H) (.bl _))
theorem ot_isN : OpT isND := fun x y d h => by cases x <;> cases y <;> first | exact ⟨rfl, rfl⟩ | cases h
theorem ot_isNN : OpT isNND := fun x y d h => by cases x <;> cases y <;> first | exact ⟨rfl, rfl⟩ | cases h

/-! ### the program's own exceptions, by name -/
abbrev bmVE : List Value := [.type "ValueError", .type "Exception", .type "BaseException", .type "object"]
/-- the class x stands where the top has written it, and may be raised -/
def Xk (K : PySem.W.Frag) (mg : Str → Option Value) (x : Str) : Prop := ∃ C : Addr, mg x = some (.ref C) ∧ PySem.W.excIn K C bmVE "ValueError.__new__" = true ∧ PySem.W.keepIn K (.ref C) = true ∧ PySem.W.subIn K (.ref C) (.type "BaseException") = some true ∧ PySem.W.typeIn K (.ref C) = some (.type "type")
/-- except x: an exception of the class y is taken (b), or not -/
def Xm (K : PySem.W.Frag) (mg : Str → Option Value) (x y : Str) (b : Bool) : Prop := ∃ C E : Addr, mg x = some (.ref C) ∧ mg y = some (.ref E) ∧ PySem.W.exmOne K (.ref E) (.ref C) = some b
section
variable {X : Cx} {Wx : WX} {pos p pos' np : Pos} {x : Str}
theorem ms_raiseX (c : Xk X.K X.mg x) (tk : Takes X Wx) (hc : X.calm = true := by rfl) (hg : Gl X x := by rfl) (hdb : (x == ("__debug__" : Str)) = false := by decide) : PSm X Wx (.Raise (some (.Call (.Name x p) [] [] pos)) none pos') (fun _ _ _ _ => M.raise x) := by
  obtain ⟨C, h1, h2, h3, h4, h5⟩ := c
  exact ms_raise PySem.F.excBase_ValueError h2 h1 h3 (raises_own h4 h5) tk hc hg hdb
theorem xm_nil {K : PySem.W.Frag} {mg : Str → Option Value} : ∀ y k, ([] : List (Str × Bool)).lookup y = some k → Xm K mg x y k := fun _ _ h => by cases h
theorem xm_cons {K : PySem.W.Frag} {mg : Str → Option Value} {y : Str} {b : Bool} {T : List (Str × Bool)} (h : Xm K mg x y b) (r : ∀ y k, T.lookup y = some k → Xm K mg x y k) : ∀ z k, ((y, b) :: T).lookup z = some k → Xm K mg x z k := fun z k e => by
  rw [List.lookup_cons] at e
  split at e
  · rename_i hz
    cases e
    rw [eq_of_beq hz]
    exact h
  · exact r z k e
theorem xk_mk {K : PySem.W.Frag} {mg : Str → Option Value} {h : Heap} {C : Addr} (X : K.In h) (G : h.Ns mainGlobals mg) (a : PySem.W.nsIn K mainGlobals x = some (some (.ref C))) (e : PySem.W.excIn K C bmVE "ValueError.__new__" = true) (k : PySem.W.keepIn K (.ref C) = true) (s : PySem.W.subIn K (.ref C) (.type "BaseException") = some true) (t : PySem.W.typeIn K (.ref C) = some (.type "type")) : Xk K mg x :=
  ⟨C, PySem.W.mg_of X G a, e, k, s, t⟩
theorem xm_mk {K : PySem.W.Frag} {mg : Str → Option Value} {h : Heap} {y : Str} {b : Bool} {C E : Addr} (X : K.In h) (G : h.Ns mainGlobals mg) (a : PySem.W.nsIn K mainGlobals x = some (some (.ref C))) (a' : PySem.W.nsIn K mainGlobals y = some (some (.ref E))) (e : PySem.W.exmOne K (.ref E) (.ref C) = some b) : Xm K mg x y b :=
  ⟨C, E, PySem.W.mg_of X G a, PySem.W.mg_of X G a', e⟩
end
end Pm
namespace Pm
open PySem PySem.Spec PyProof.Rows L2

/-! ### rules in short -/
section
variable {X : Cx} {Wx : WX} {a b e : Expr} {pos pos' p : Pos} {x : Str}
theorem msv {f : Dn} (i : Nat) (hN : X.N.Nodup) (he : PEm X Wx e f) (hi : X.N[i]? = some x := by rfl) (hx : L2.Loc X.env.scope x := by first | exact Or.inl rfl | exact Or.inr rfl) (hs : swapsWith e (some (.Name x pos')) pos.line X.env = pure false := by rfl)
    (hf : X.fn x = true ∨ X.env.scope.names.lookup x = some .local := by first | exact .inl rfl | exact .inr rfl) : PSm X Wx (.Assign [.Name x pos'] e pos) (fun nx _ _ sl => (f sl).bind fun d => nx (sl.set i (.va d))) := ms_set hN hi hx he hs hf
theorem mso {f : Dn} (i : Nat) (hN : X.N.Nodup) (he : PFm X Wx e f) (hi : X.N[i]? = some x := by rfl) (hx : L2.Loc X.env.scope x := by first | exact Or.inl rfl | exact Or.inr rfl) (hs : swapsWith e (some (.Name x pos')) pos.line X.env = pure false := by rfl)
    (hf : X.fn x = true ∨ X.env.scope.names.lookup x = some .local := by first | exact .inl rfl | exact .inr rfl) : PSm X Wx (.Assign [.Name x pos'] e pos) (fun nx _ _ sl => (f sl).bind fun d => nx (sl.set i (.ow d))) := ms_own hN hi hx he hs hf
end

/-! ### try: x = e / except X: y = e' -/
def fTry {α : Type} (T : List (Str × Bool)) (m : M D) (k : D → M α) (mh : M D) (kh : D → M α) : M α := fun w => match m w with
  | .ok a w' => k a w'
  | .ex c w' => (match T.lookup c with
    | some true => (noEx mh).bind kh w'
    | some false => .ex c w'
    | none => .bad)
  | .bad => .bad
/-- a body that sets one slot, or none -/
def tB1 (K : PySem.W.Frag) (mg : Str → Option Value) (i : Nat) (m : Dn) (Wx : WX) : TS := fun D0 σ H => tE K mg Wx m σ H fun v H' => D0.nx (σ.set i (some v)) H'
def tB0 (K : PySem.W.Frag) (mg : Str → Option Value) (m : Dn) (Wx : WX) : TS := fun D0 σ H => tR K mg Wx m σ H fun _ H' => D0.nx σ H'
abbrev PB1 (X : Cx) (Wx : WX) (i : Nat) (body : List Stmt) (m : Dn) : Prop := PSs X body (tB1 X.K X.mg i m Wx)
abbrev PB0 (X : Cx) (Wx : WX) (body : List Stmt) (m : Dn) : Prop := PSs X body (tB0 X.K X.mg m Wx)
section
variable {X : Cx} {Wx : WX} {a b e c : Expr} {pos pos' p np : Pos} {x y : Str} {i : Nat} {m m' mh : Dn}
theorem pb_set (hN : X.N.Nodup) (he : PEm X Wx e m) (hi : X.N[i]? = some x := by rfl) (hx : L2.Loc X.env.scope x := by first | exact Or.inl rfl | exact Or.inr rfl) (hs : swapsWith e (some (.Name x pos')) pos.line X.env = pure false := by rfl)
    (hf : X.fn x = true ∨ X.env.scope.names.lookup x = some .local := by first | exact .inl rfl | exact .inr rfl) : PB1 X Wx i [.Assign [.Name x pos'] e pos] m := (pss_one (ps_set hN hi hx he hs hf)).mimp fun D0 σ H h => h
theorem pb_if {cf : Bn} {s1 s2 : List Stmt} (hc : PTm X Wx c cf) (ha : PB1 X Wx i s1 m) (hb : PB1 X Wx i s2 m') : PB1 X Wx i [.If c s1 s2 pos] (fun sl => fIf (cf sl) (m sl) (m' sl)) := by
  refine (pss_one (ps_if hc ha hb)).mimp fun D0 σ H ⟨ws, B0, sl, w, e, h⟩ => ?_
  refine ⟨ws, B0, sl, w, e, (runAt.bind h).mono fun ws1 w1 k H1 l1 e1 h1 => ?_⟩
  cases k with
  | true => exact ⟨ws1, B0, sl, w1, e1, h1⟩
  | false => exact ⟨ws1, B0, sl, w1, e1, h1⟩
theorem pb_expr (he : PRm X Wx e m) (hs : swapsWith e none pos.line X.env = pure false := by rfl) : PB0 X Wx [.Expr e pos] m := (pss_one (ps_expr he hs)).mimp fun D0 σ H h => h
theorem noEx_run {K : PySem.W.Frag} {mg : Str → Option Value} {ws : Wa} {B0 : Addr → Prop} {sl : Ls} {w : W} {σ : L2.St} {H : Hp} {nx bk ct : Kn} {D0 : Ends} {mh : M D} {kh : D → M D} (h : Ans K mg Wx ws B0 sl σ H (M.bind (noEx mh) kh w) nx bk ct D0) : runAt K mg W0 ws B0 sl σ H (mh w) fun ws' w' a H' => Ans K mg Wx ws' B0 sl σ H' (kh a w') nx bk ct D0 := by
  unfold M.bind noEx at h
  cases q : mh w with
  | bad => rw [q] at h; exact absurd rfl h.nb
  | ex c w1 => rw [q] at h; exact absurd rfl h.nb
  | ok a w1 => rw [q] at h; exact fun ws' H' l e => h.le l
theorem ms_try1 {T : List (Str × Bool)} {body : List Stmt} {b₀ : Stmt} {j : Nat} (cx : Xk X.K X.mg x) (hT : ∀ y k, T.lookup y = some k → Xm X.K X.mg x y k) (tk : Takes X Wx)
    (hb : ∀ (W : WX) (pn : List (Addr × Obj)) (xe : Value → Shared → Prop), Takes (X.tr pn xe) W → PassesOwn (model X.prog X.w) X.A X.env xe → PB1 (X.tr pn xe) W i body m)
    (hsu : ∀ (a : Addr) (oe : Obj) (pn : List (Addr × Obj)), PB1 (X.suite a ((a, oe) :: pn)) W0 j [b₀] mh) (hs : X.stack = X.env :: X.outer := by rfl) (hf : X.env.frame = some X.env.locals := by rfl) (hg : Gl X x := by rfl) (hdb : (x == ("__debug__" : Str)) = false := by decide) :
    PSm X Wx (.Try body [.ExceptHandler (some (.Name x np)) none [b₀] pos'] [] [] pos) (fun nx _ _ sl => fTry T (m sl) (fun d => nx (sl.set i (.va d))) (mh sl) (fun d => nx (sl.set j (.va d)))) := by
  obtain ⟨C0, hx, _⟩ := cx
  refine (ps_try_only (c := .ref C0) (Wout := Wx) hs hf ⟨hg, hdb, .inl hx⟩ tk (tb := fun W => tB1 X.K X.mg i m W) (ts := fun _ _ _ => tB1 X.K X.mg j mh W0) hb (fun a oe cls d pn _ _ => hsu a oe pn)).mimp fun D0 σ H ⟨ws, B0, sl, w, nx, bk, ct, e, q⟩ => ?_
  refine ⟨ws, B0, sl, w, e, ?_⟩
  have q : Ans X.K X.mg Wx ws B0 sl σ H (fTry T (m sl) (fun d => nx (sl.set i (.va d))) (mh sl) (fun d => nx (sl.set j (.va d))) w) nx bk ct D0 := q
  unfold fTry at q
  cases qm : m sl w with
  | bad => rw [qm] at q; exact absurd rfl q.nb
  | ok d w1 =>
    rw [qm] at q
    intro ws1 H1 l1 e1 v hv
    obtain ⟨l2, e2⟩ := e1.put (i := i) hv
    exact q.nx _ _ _ _ _ (l1.trans l2) e2 rfl
  | ex c w1 =>
    rw [qm] at q
    simp only at q
    intro ws' H' C hC l e'
    cases qT : T.lookup c with
    | none => rw [qT] at q; exact absurd rfl q.nb
    | some k =>
      rw [qT] at q
      obtain ⟨C1, E1, g1, g2, g3⟩ := hT c k qT
      rw [hx] at g1
      cases g1
      rw [hC] at g2
      cases g2
      refine ⟨k, g3, fun hk a _ => ?_, fun hk => ?_⟩
      · subst hk
        refine ⟨ws', B0, sl, w1, e', (noEx_run (q.le l)).mono fun ws2 w2 d H2 l2 e2 h2 v hv => ?_⟩
        obtain ⟨l3, e3⟩ := e2.put (i := j) hv
        exact h2.nx _ _ _ _ _ l3 e3 rfl
      · subst hk
        exact q.ex c w1 rfl σ ws' sl H' C hC l e'
theorem ms_try0 {T : List (Str × Bool)} {body : List Stmt} {b₀ : Stmt} {j : Nat} (cx : Xk X.K X.mg x) (hT : ∀ y k, T.lookup y = some k → Xm X.K X.mg x y k) (tk : Takes X Wx)
    (hb : ∀ (W : WX) (pn : List (Addr × Obj)) (xe : Value → Shared → Prop), Takes (X.tr pn xe) W → PassesOwn (model X.prog X.w) X.A X.env xe → PB0 (X.tr pn xe) W body m)
    (hsu : ∀ (a : Addr) (oe : Obj) (pn : List (Addr × Obj)), PB1 (X.suite a ((a, oe) :: pn)) W0 j [b₀] mh) (hs : X.stack = X.env :: X.outer := by rfl) (hf : X.env.frame = some X.env.locals := by rfl) (hg : Gl X x := by rfl) (hdb : (x == ("__debug__" : Str)) = false := by decide) :
    PSm X Wx (.Try body [.ExceptHandler (some (.Name x np)) none [b₀] pos'] [] [] pos) (fun nx _ _ sl => fTry T (m sl) (fun _ => nx sl) (mh sl) (fun d => nx (sl.set j (.va d)))) := by
  obtain ⟨C0, hx, _⟩ := cx
  refine (ps_try_only (c := .ref C0) (Wout := Wx) hs hf ⟨hg, hdb, .inl hx⟩ tk (tb := fun W => tB0 X.K X.mg m W) (ts := fun _ _ _ => tB1 X.K X.mg j mh W0) hb (fun a oe cls d pn _ _ => hsu a oe pn)).mimp fun D0 σ H ⟨ws, B0, sl, w, nx, bk, ct, e, q⟩ => ?_
  refine ⟨ws, B0, sl, w, e, ?_⟩
  have q : Ans X.K X.mg Wx ws B0 sl σ H (fTry T (m sl) (fun _ => nx sl) (mh sl) (fun d => nx (sl.set j (.va d))) w) nx bk ct D0 := q
  unfold fTry at q
  cases qm : m sl w with
  | bad => rw [qm] at q; exact absurd rfl q.nb
  | ok d w1 =>
    rw [qm] at q
    intro ws1 H1 l1 e1 v hv
    exact q.nx _ _ _ _ _ l1 e1 rfl
  | ex c w1 =>
    rw [qm] at q
    simp only at q
    intro ws' H' C hC l e'
    cases qT : T.lookup c with
    | none => rw [qT] at q; exact absurd rfl q.nb
    | some k =>
      rw [qT] at q
      obtain ⟨C1, E1, g1, g2, g3⟩ := hT c k qT
      rw [hx] at g1
      cases g1
      rw [hC] at g2
      cases g2
      refine ⟨k, g3, fun hk a _ => ?_, fun hk => ?_⟩
      · subst hk
        refine ⟨ws', B0, sl, w1, e', (noEx_run (q.le l)).mono fun ws2 w2 d H2 l2 e2 h2 v hv => ?_⟩
        obtain ⟨l3, e3⟩ := e2.put (i := j) hv
        exact h2.nx _ _ _ _ _ l3 e3 rfl
      · subst hk
        exact q.ex c w1 rfl σ ws' sl H' C hC l e'
end
end Pm
/-! ### zip over any two sources: next, next while the tuple is held, list(zip(..)) -/
namespace Pm
open PySem PySem.Spec PyProof.Rows L2 RZ PySem.W

structure Ap (z TI TO i1 i2 : Addr) (f1 f2 : List Addr) : Prop where
  TIz : TI ≠ z
  TOz : TO ≠ z
  i1z : i1 ≠ z
  i2z : i2 ≠ z
  TITO : TI ≠ TO
  TIi1 : TI ≠ i1
  TIi2 : TI ≠ i2
  TOi1 : TO ≠ i1
  TOi2 : TO ≠ i2
  i12 : i1 ≠ i2
  z1 : z ∉ f1
  o1 : TO ∉ f1
  j1 : i2 ∉ f1
  z2 : z ∉ f2
  o2 : TO ∉ f2
  j2 : i1 ∉ f2
section
variable {prog : Program} {w : World} {A : Around} {E : Value → Shared → Prop} {s : Shared} {z TI TO i1 i2 : Addr} {f1 f2 : List Addr} {n1 n2 k : Nat} {P1 P2 : Nat → Value → Prop} {S1 S2 : Nat → Heap → Prop}
theorem ne_mem {c b : Addr} {f : List Addr} (h : c ∉ f) (hb : b ∈ f) : b ≠ c := fun e => h (e ▸ hb)
theorem frB (D : Draws prog w A i1 f1 n1 P1 S1) {c : Addr} {h h' : Heap} {i : Nat} (hc : c ∉ f1) (hs : Heap.SameBut c h h') (st : S1 i h) : S1 i h' := D.frame _ _ _ st fun b hb o e => hs.extBut b o (ne_mem hc hb) e
theorem zipG_item {a b : Value} {Q : Value → Shared → Prop} (D1 : Draws prog w A i1 f1 n1 P1 S1) (D2 : Draws prog w A i2 f2 n2 P2 S2) (D : Ap z TI TO i1 i2 f1 f2)
    (hz : IsZip s.heap z TI TO .none) (hTI : IsPair s.heap TI (.ref i1) (.ref i2)) (hTO : IsPair s.heap TO a b) (h1 : S1 k s.heap) (h2 : S2 k s.heap) (k1 : k < n1) (k2 : k < n2)
    (hQ : ∀ x y h' tk, P1 k x → P2 k y → IsZip h' z TI TO (rawInt s.heap.objs.size) → IsPair h' TO x y → S1 (k + 1) h' → S2 (k + 1) h' → IsPair h' s.heap.objs.size x y → h'.objs.size = s.heap.objs.size + 1 →
      (∀ c o, c ≠ z → c ≠ TO → c ≠ i1 → c ≠ i2 → s.heap.get? c = some o → h'.get? c = some o) → Q (.ref s.heap.objs.size) { s with heap := h', toks := tk }) :
    wpAny (model prog w) A (Builtin.«zip.__next__» ⟨[.ref z], []⟩) (fun fin s' => ∃ v, fin = .done (.ret v) ∧ Q v s') E s := by
  show wpAny _ _ (field (.ref z) 2 >>= _) _ _ _
  refine wpAny_bind (wpAny_field hz rfl (x := .bool false) rfl ?_)
  show wpAny _ _ (field (.ref z) 3 >>= _) _ _ _
  refine wpAny_bind (wpAny_field hz rfl (x := .ref TI) rfl ?_)
  refine wpAny_bind (wpAny_seqItems hTI rfl ?_)
  show wpAny _ _ (Builtin.SmallTypes.ownedTupleIsFree (.ref z) >>= _) _ _ _
  refine wpAny_bind ?_
  unfold Builtin.SmallTypes.ownedTupleIsFree
  refine wpAny_bind (wpAny_field hz rfl (x := .none) rfl (wpAny_pure ?_))
  simp only [if_true]
  refine wpAny_bind (wpAny_rule ?_)
  refine wpAny_bind (wpAny_field hz rfl (x := .ref TO) rfl ?_)
  refine wpAny_bind (wpAny_setField_rec hz (by simp) fun h₁ hz₁ hs₁ => ?_)
  replace hz₁ : IsZip h₁ z TI TO .ellipsis := hz₁
  refine wpAny_bind ?_
  simp only [List.zipIdx_cons, List.zipIdx_nil, List.forIn_cons, List.forIn_nil]
  refine wpAny_bind (wpAny_bind (wpAny_onRaise ?_))
  show wpAny _ _ (Builtin.SmallTypes.nextOf (.ref i1) >>= _) _ _ _
  refine wpAny_bind (D1.item k { s with heap := h₁ } _ _ k1 (frB D1 D.z1 hs₁ h1) fun x h₂ tk₂ hx h1₂ hs₂ => wpAny_pure ?_)
  replace hs₂ : Heap.SameBut i1 h₁ h₂ := hs₂
  have hTO₂ : IsPair h₂ TO a b := hs₂.extBut _ _ D.TOi1 (hs₁.extBut _ _ D.TOz hTO)
  refine wpAny_bind (wpAny_seqItems hTO₂ rfl ?_)
  refine wpAny_bind (wpAny_updateSeq_pair hTO₂ fun h₃ hTO₃ hs₃ => ?_)
  replace hTO₃ : IsPair h₃ TO x b := hTO₃
  replace hs₃ : Heap.SameBut TO h₂ h₃ := hs₃
  refine wpAny_bind (wpAny_letGo (wpAny_pure ?_))
  refine wpAny_bind (wpAny_bind (wpAny_onRaise ?_))
  show wpAny _ _ (Builtin.SmallTypes.nextOf (.ref i2) >>= _) _ _ _
  refine wpAny_bind (D2.item k { s with heap := h₃, toks := tk₂ } _ _ k2 (frB D2 D.o2 hs₃ (frB D2 D.j2 hs₂ (frB D2 D.z2 hs₁ h2))) fun y h₄ tk₄ hy h2₄ hs₄ => wpAny_pure ?_)
  replace hs₄ : Heap.SameBut i2 h₃ h₄ := hs₄
  have hTO₄ : IsPair h₄ TO x b := hs₄.extBut _ _ D.TOi2 hTO₃
  refine wpAny_bind (wpAny_seqItems hTO₄ rfl ?_)
  refine wpAny_bind (wpAny_updateSeq_pair hTO₄ fun h₅ hTO₅ hs₅ => ?_)
  replace hTO₅ : IsPair h₅ TO x y := hTO₅
  replace hs₅ : Heap.SameBut TO h₄ h₅ := hs₅
  refine wpAny_bind (wpAny_letGo (wpAny_pure (wpAny_pure ?_)))
  refine wpAny_bind (wpAny_seqItems hTO₅ rfl ?_)
  refine wpAny_bind (wpAny_newTuple ?_)
  have hsz : h₅.objs.size = s.heap.objs.size := by rw [hs₅.1, hs₄.1, hs₃.1, hs₂.1, hs₁.1]
  have hz₅ : IsZip h₅ z TI TO .ellipsis := hs₅.extBut _ _ D.TOz.symm (hs₄.extBut _ _ D.i2z.symm (hs₃.extBut _ _ D.TOz.symm (hs₂.extBut _ _ D.i1z.symm hz₁)))
  have hk₅ : ∀ c o, c ≠ z → c ≠ TO → c ≠ i1 → c ≠ i2 → s.heap.get? c = some o → h₅.get? c = some o := fun c o c1 c2 c3 c4 e =>
    hs₅.extBut _ _ c2 (hs₄.extBut _ _ c4 (hs₃.extBut _ _ c2 (hs₂.extBut _ _ c3 (hs₁.extBut _ _ c1 e))))
  have h1₅ : S1 (k + 1) h₅ := frB D1 D.o1 hs₅ (frB D1 D.j1 hs₄ (frB D1 D.o1 hs₃ h1₂))
  have h2₅ : S2 (k + 1) h₅ := frB D2 D.o2 hs₅ h2₄
  have hzlt : z < h₅.objs.size := Heap.lt_size hz₅
  show wpAny _ _ (Builtin.SmallTypes.ownedTupleHandOut (.ref z) (.ref h₅.objs.size) >>= _) _ _ _
  refine wpAny_bind ?_
  unfold Builtin.SmallTypes.ownedTupleHandOut
  have hz₆ : IsZip (h₅.push { cls := .type "tuple", data := .seq #[x, y] }) z TI TO .ellipsis := Heap.get?_push_of_some _ hz₅
  refine wpAny_bind (wpAny_setField_rec hz₆ (by simp) fun h₇ hz₇ hs₇ => ?_)
  replace hz₇ : IsZip h₇ z TI TO (rawInt h₅.objs.size) := hz₇
  refine wpAny_setField_rec hz₇ (by simp) fun h₈ hz₈ hs₈ => ?_
  replace hz₈ : IsZip h₈ z TI TO (rawInt h₅.objs.size) := hz₈
  have up : ∀ c o, c ≠ z → h₅.get? c = some o → h₈.get? c = some o := fun c o c1 e => hs₈.extBut _ _ c1 (hs₇.extBut _ _ c1 (Heap.get?_push_of_some _ e))
  have hT₈ : IsPair h₈ h₅.objs.size x y := hs₈.extBut _ _ (Nat.ne_of_gt hzlt) (hs₇.extBut _ _ (Nat.ne_of_gt hzlt) (Heap.get?_push_size _ rfl))
  have hz8 : h₈.objs.size = h₅.objs.size + 1 := by rw [hs₈.1, hs₇.1, Heap.size_push]
  rw [hsz] at hz₈ hT₈ hz8
  refine wpAny_pure ⟨_, rfl, ?_⟩
  show Q (.ref h₅.objs.size) _
  rw [hsz]
  exact hQ x y h₈ _ hx hy hz₈ (up _ _ D.TOz hTO₅) (D1.frame _ _ _ h1₅ fun b hb o e => up _ o (ne_mem D.z1 hb) e) (D2.frame _ _ _ h2₅ fun b hb o e => up _ o (ne_mem D.z2 hb) e) hT₈ hz8 fun c o c1 c2 c3 c4 e => up c o c1 (hk₅ c o c1 c2 c3 c4 e)
theorem zipG_end {a b : Value} {Q : Fin → Shared → Prop} (D1 : Draws prog w A i1 f1 n1 P1 S1) (D2 : Draws prog w A i2 f2 n2 P2 S2) (D : Ap z TI TO i1 i2 f1 f2)
    (hz : IsZip s.heap z TI TO .none) (hTI : IsPair s.heap TI (.ref i1) (.ref i2)) (hTO : IsPair s.heap TO a b) (h1 : S1 k s.heap) (h2 : S2 k s.heap) (hend : k = n1 ∨ (k < n1 ∧ k = n2))
    (hE : ∀ h' e tk, (∀ c o, c ≠ z → c ≠ TO → c ≠ i1 → c ≠ i2 → s.heap.get? c = some o → h'.get? c = some o) → (∃ o, h'.get? e = some o ∧ o.cls = .type "StopIteration") → E (.ref e) { s with heap := h', toks := tk }) :
    wpAny (model prog w) A (Builtin.«zip.__next__» ⟨[.ref z], []⟩) Q E s := by
  show wpAny _ _ (field (.ref z) 2 >>= _) _ _ _
  refine wpAny_bind (wpAny_field hz rfl (x := .bool false) rfl ?_)
  show wpAny _ _ (field (.ref z) 3 >>= _) _ _ _
  refine wpAny_bind (wpAny_field hz rfl (x := .ref TI) rfl ?_)
  refine wpAny_bind (wpAny_seqItems hTI rfl ?_)
  show wpAny _ _ (Builtin.SmallTypes.ownedTupleIsFree (.ref z) >>= _) _ _ _
  refine wpAny_bind ?_
  unfold Builtin.SmallTypes.ownedTupleIsFree
  refine wpAny_bind (wpAny_field hz rfl (x := .none) rfl (wpAny_pure ?_))
  simp only [if_true]
  refine wpAny_bind (wpAny_rule ?_)
  refine wpAny_bind (wpAny_field hz rfl (x := .ref TO) rfl ?_)
  refine wpAny_bind (wpAny_setField_rec hz (by simp) fun h₁ hz₁ hs₁ => ?_)
  replace hz₁ : IsZip h₁ z TI TO .ellipsis := hz₁
  refine wpAny_bind ?_
  simp only [List.zipIdx_cons, List.zipIdx_nil, List.forIn_cons, List.forIn_nil]
  refine wpAny_bind (wpAny_bind (wpAny_onRaise ?_))
  show wpAny _ _ (Builtin.SmallTypes.nextOf (.ref i1) >>= _) _ _ _
  rcases hend with rfl | ⟨k1, rfl⟩
  · refine wpAny_bind (D1.done { s with heap := h₁ } _ _ (frB D1 D.z1 hs₁ h1) fun h₂ e hs₂ he => ?_)
    replace hs₂ : Heap.ExtBut i1 h₁ h₂ := hs₂
    obtain ⟨oe, hoe, hce⟩ := he
    have hz₂ : IsZip h₂ z TI TO .ellipsis := hs₂ _ _ D.i1z.symm hz₁
    have hez : e ≠ z := fun x => by subst x; rw [hz₂] at hoe; cases hoe; simp at hce
    refine wpAny_setField_rec hz₂ (by simp) fun h₃ _ hs₃ => hE h₃ e _ (fun c o c1 _ c3 _ x => hs₃.extBut _ _ c1 (hs₂ _ _ c3 (hs₁.extBut _ _ c1 x))) ⟨oe, hs₃.extBut _ _ hez hoe, hce⟩
  · refine wpAny_bind (D1.item k { s with heap := h₁ } _ _ k1 (frB D1 D.z1 hs₁ h1) fun x h₂ tk₂ hx h1₂ hs₂ => wpAny_pure ?_)
    replace hs₂ : Heap.SameBut i1 h₁ h₂ := hs₂
    have hTO₂ : IsPair h₂ TO a b := hs₂.extBut _ _ D.TOi1 (hs₁.extBut _ _ D.TOz hTO)
    refine wpAny_bind (wpAny_seqItems hTO₂ rfl ?_)
    refine wpAny_bind (wpAny_updateSeq_pair hTO₂ fun h₃ hTO₃ hs₃ => ?_)
    replace hs₃ : Heap.SameBut TO h₂ h₃ := hs₃
    refine wpAny_bind (wpAny_letGo (wpAny_pure ?_))
    refine wpAny_bind (wpAny_bind (wpAny_onRaise ?_))
    show wpAny _ _ (Builtin.SmallTypes.nextOf (.ref i2) >>= _) _ _ _
    refine wpAny_bind (D2.done { s with heap := h₃, toks := tk₂ } _ _ (frB D2 D.o2 hs₃ (frB D2 D.j2 hs₂ (frB D2 D.z2 hs₁ h2))) fun h₄ e hs₄ he => ?_)
    replace hs₄ : Heap.ExtBut i2 h₃ h₄ := hs₄
    obtain ⟨oe, hoe, hce⟩ := he
    have hz₄ : IsZip h₄ z TI TO .ellipsis := hs₄ _ _ D.i2z.symm (hs₃.extBut _ _ D.TOz.symm (hs₂.extBut _ _ D.i1z.symm hz₁))
    have hez : e ≠ z := fun x => by subst x; rw [hz₄] at hoe; cases hoe; simp at hce
    refine wpAny_setField_rec hz₄ (by simp) fun h₅ _ hs₅ => hE h₅ e _ (fun c o c1 c2 c3 c4 x => hs₅.extBut _ _ c1 (hs₄ _ _ c4 (hs₃.extBut _ _ c2 (hs₂.extBut _ _ c3 (hs₁.extBut _ _ c1 x))))) ⟨oe, hs₅.extBut _ _ hez hoe, hce⟩
theorem zipG_item_held {T : Addr} {f : Bool} {oT : Obj} {Q : Value → Shared → Prop} (D1 : Draws prog w A i1 f1 n1 P1 S1) (D2 : Draws prog w A i2 f2 n2 P2 S2) (D : Ap z TI TO i1 i2 f1 f2)
    (hz : IsZipHeld s.heap z TI TO T f) (hT : s.heap.get? T = some oT) (hTI : IsPair s.heap TI (.ref i1) (.ref i2)) (h1 : S1 k s.heap) (h2 : S2 k s.heap) (k1 : k < n1) (k2 : k < n2)
    (hQ : ∀ x y h' tk, P1 k x → P2 k y → IsZipHeld h' z TI TO T true → S1 (k + 1) h' → S2 (k + 1) h' → IsPair h' s.heap.objs.size x y → h'.objs.size = s.heap.objs.size + 1 →
      (∀ c o, c ≠ z → c ≠ i1 → c ≠ i2 → s.heap.get? c = some o → h'.get? c = some o) → Q (.ref s.heap.objs.size) { s with heap := h', toks := tk }) :
    wpAny (model prog w) A (Builtin.«zip.__next__» ⟨[.ref z], []⟩) (fun fin s' => ∃ v, fin = .done (.ret v) ∧ Q v s') E s := by
  show wpAny _ _ (field (.ref z) 2 >>= _) _ _ _
  refine wpAny_bind (wpAny_field hz rfl (x := .bool false) rfl ?_)
  show wpAny _ _ (field (.ref z) 3 >>= _) _ _ _
  refine wpAny_bind (wpAny_field hz rfl (x := .ref TI) rfl ?_)
  refine wpAny_bind (wpAny_seqItems hTI rfl ?_)
  show wpAny _ _ (Builtin.SmallTypes.ownedTupleIsFree (.ref z) >>= _) _ _ _
  refine wpAny_bind (wpAny_tupleHeld_zip hz hT fun h₁ hz₁ hs₁ => ?_)
  simp only [Bool.false_eq_true, if_false]
  refine wpAny_bind ?_
  rw [← Array.forIn_toList]
  simp only [List.forIn_cons, List.forIn_nil]
  refine wpAny_bind (wpAny_bind (wpAny_holding ?_))
  show wpAny _ _ (Builtin.SmallTypes.nextOf (.ref i1) >>= _) _ _ _
  refine wpAny_bind (D1.item k { s with heap := h₁ } _ _ k1 (frB D1 D.z1 hs₁ h1) fun x h₂ tk₂ hx h1₂ hs₂ => wpAny_pure ?_)
  replace hs₂ : Heap.SameBut i1 h₁ h₂ := hs₂
  refine wpAny_pure ?_
  refine wpAny_bind (wpAny_bind (wpAny_holding ?_))
  show wpAny _ _ (Builtin.SmallTypes.nextOf (.ref i2) >>= _) _ _ _
  refine wpAny_bind (D2.item k { s with heap := h₂, toks := tk₂ } _ _ k2 (frB D2 D.j2 hs₂ (frB D2 D.z2 hs₁ h2)) fun y h₃ tk₃ hy h2₃ hs₃ => wpAny_pure ?_)
  replace hs₃ : Heap.SameBut i2 h₂ h₃ := hs₃
  refine wpAny_pure (wpAny_pure ?_)
  show wpAny _ _ (newTuple [x, y] >>= _) _ _ _
  refine wpAny_bind (wpAny_newTuple ?_)
  have hsz : h₃.objs.size = s.heap.objs.size := by rw [hs₃.1, hs₂.1, hs₁.1]
  have hz₃ : IsZipHeld h₃ z TI TO T true := hs₃.extBut _ _ D.i2z.symm (hs₂.extBut _ _ D.i1z.symm hz₁)
  have hk : ∀ c o, c ≠ z → c ≠ i1 → c ≠ i2 → s.heap.get? c = some o → h₃.get? c = some o := fun c o c1 c2 c3 e => hs₃.extBut _ _ c3 (hs₂.extBut _ _ c2 (hs₁.extBut _ _ c1 e))
  have h1₃ : S1 (k + 1) h₃ := frB D1 D.j1 hs₃ h1₂
  refine wpAny_pure ⟨_, rfl, ?_⟩
  show Q (.ref h₃.objs.size) _
  have hp : IsPair (h₃.push { cls := .type "tuple", data := .seq #[x, y] }) h₃.objs.size x y := Heap.get?_push_size _ rfl
  have hz4 : (h₃.push { cls := .type "tuple", data := .seq #[x, y] }).objs.size = h₃.objs.size + 1 := Heap.size_push ..
  rw [hsz] at hp hz4 ⊢
  exact hQ x y _ _ hx hy (Heap.get?_push_of_some _ hz₃) (D1.frame _ _ _ h1₃ fun b hb o e => Heap.get?_push_of_some _ e) (D2.frame _ _ _ h2₃ fun b hb o e => Heap.get?_push_of_some _ e) hp hz4 fun c o c1 c2 c3 e => Heap.get?_push_of_some _ (hk c o c1 c2 c3 e)
theorem zipG_end_held {T : Addr} {f : Bool} {oT : Obj} {Q : Fin → Shared → Prop} (D1 : Draws prog w A i1 f1 n1 P1 S1) (D2 : Draws prog w A i2 f2 n2 P2 S2) (D : Ap z TI TO i1 i2 f1 f2)
    (hz : IsZipHeld s.heap z TI TO T f) (hT : s.heap.get? T = some oT) (hTI : IsPair s.heap TI (.ref i1) (.ref i2)) (h1 : S1 k s.heap) (h2 : S2 k s.heap) (hend : k = n1 ∨ (k < n1 ∧ k = n2))
    (hE : ∀ h' e tk, (∀ c o, c ≠ z → c ≠ i1 → c ≠ i2 → s.heap.get? c = some o → h'.get? c = some o) → (∃ o, h'.get? e = some o ∧ o.cls = .type "StopIteration") → E (.ref e) { s with heap := h', toks := tk }) :
    wpAny (model prog w) A (Builtin.«zip.__next__» ⟨[.ref z], []⟩) Q E s := by
  show wpAny _ _ (field (.ref z) 2 >>= _) _ _ _
  refine wpAny_bind (wpAny_field hz rfl (x := .bool false) rfl ?_)
  show wpAny _ _ (field (.ref z) 3 >>= _) _ _ _
  refine wpAny_bind (wpAny_field hz rfl (x := .ref TI) rfl ?_)
  refine wpAny_bind (wpAny_seqItems hTI rfl ?_)
  show wpAny _ _ (Builtin.SmallTypes.ownedTupleIsFree (.ref z) >>= _) _ _ _
  refine wpAny_bind (wpAny_tupleHeld_zip hz hT fun h₁ hz₁ hs₁ => ?_)
  simp only [Bool.false_eq_true, if_false]
  refine wpAny_bind ?_
  rw [← Array.forIn_toList]
  simp only [List.forIn_cons, List.forIn_nil]
  refine wpAny_bind (wpAny_bind (wpAny_holding ?_))
  show wpAny _ _ (Builtin.SmallTypes.nextOf (.ref i1) >>= _) _ _ _
  rcases hend with rfl | ⟨k1, rfl⟩
  · refine wpAny_bind (D1.done { s with heap := h₁ } _ _ (frB D1 D.z1 hs₁ h1) fun h₂ e hs₂ he => ?_)
    replace hs₂ : Heap.ExtBut i1 h₁ h₂ := hs₂
    exact hE h₂ e _ (fun c o c1 c2 _ x => hs₂ _ _ c2 (hs₁.extBut _ _ c1 x)) he
  · refine wpAny_bind (D1.item k { s with heap := h₁ } _ _ k1 (frB D1 D.z1 hs₁ h1) fun x h₂ tk₂ hx h1₂ hs₂ => wpAny_pure ?_)
    replace hs₂ : Heap.SameBut i1 h₁ h₂ := hs₂
    refine wpAny_pure ?_
    refine wpAny_bind (wpAny_bind (wpAny_holding ?_))
    show wpAny _ _ (Builtin.SmallTypes.nextOf (.ref i2) >>= _) _ _ _
    refine wpAny_bind (D2.done { s with heap := h₂, toks := tk₂ } _ _ (frB D2 D.j2 hs₂ (frB D2 D.z2 hs₁ h2)) fun h₃ e hs₃ he => ?_)
    replace hs₃ : Heap.ExtBut i2 h₂ h₃ := hs₃
    exact hE h₃ e _ (fun c o c1 c2 c3 x => hs₃ _ _ c3 (hs₂.extBut _ _ c2 (hs₁.extBut _ _ c1 x))) he
/-- the zip between two steps, where the list S keeps the pairs -/
def ZSt (lo z TI TO i1 i2 : Addr) (S1 S2 : Nat → Heap → Prop) (k : Nat) (h : Heap) : Prop := IsPair h TI (.ref i1) (.ref i2) ∧ S1 k h ∧ S2 k h ∧
  ((k = 0 ∧ IsZip h z TI TO .none ∧ ∃ a b, IsPair h TO a b) ∨ ∃ T f oT, IsZipHeld h z TI TO T f ∧ h.get? T = some oT ∧ T ≠ z ∧ T ≠ i1 ∧ T ≠ i2 ∧ T ≠ TO ∧ lo < T)
theorem pyNextG_item {lo : Addr} {Q : Option Value → Shared → Prop} (D1 : Draws prog w A.in1 i1 f1 n1 P1 S1) (D2 : Draws prog w A.in1 i2 f2 n2 P2 S2) (D : Ap z TI TO i1 i2 f1 f2) (st : ZSt lo z TI TO i1 i2 S1 S2 k s.heap) (k1 : k < n1) (k2 : k < n2)
    (hl : z < s.heap.objs.size ∧ i1 < s.heap.objs.size ∧ i2 < s.heap.objs.size ∧ TO < s.heap.objs.size ∧ lo < s.heap.objs.size)
    (hQ : ∀ x y h' tk, P1 k x → P2 k y → ZSt lo z TI TO i1 i2 S1 S2 (k + 1) h' → IsPair h' s.heap.objs.size x y → h'.objs.size = s.heap.objs.size + 1 →
      (∀ c o, c ≠ z → c ≠ TO → c ≠ i1 → c ≠ i2 → s.heap.get? c = some o → h'.get? c = some o) → Q (some (.ref s.heap.objs.size)) { s with heap := h', toks := tk }) :
    wpAny (model prog w) A (pyNext (.ref z)) Q E s := by
  obtain ⟨hTI, h1, h2, st⟩ := st
  have hTy : s.TypeIs (.ref z) "zip" := by
    rcases st with ⟨_, hz, _⟩ | ⟨_, _, _, hz, _⟩ <;> exact ⟨_, hz, rfl⟩
  unfold pyNext
  refine wpAny_bind (wpAny_attempt (wpAny_callSpecial?_slot (name := Str.ofString "__next__") hTy F.slot_zip_next
    (wpAny_call_entry F.slot_zip_next hTy F.entry_zip_next ?_ (F.args_zip_next_1 _))))
  have big : ∀ {c : Addr}, c < s.heap.objs.size → s.heap.objs.size ≠ c := fun h => Nat.ne_of_gt h
  rcases st with ⟨rfl, hz, a, b, hTO⟩ | ⟨T, f, oT, hz, hT, t1, t2, t3, t4, t5⟩
  · exact zipG_item D1 D2 D hz hTI hTO h1 h2 k1 k2 fun x y h' tk hx hy hz' hTO' s1 s2 hp hsz hk => wpAny_pure (hQ x y h' tk hx hy ⟨hk _ _ D.TIz D.TITO D.TIi1 D.TIi2 hTI, s1, s2, .inr ⟨_, false, _, hz', hp, big hl.1, big hl.2.1, big hl.2.2.1, big hl.2.2.2.1, hl.2.2.2.2⟩⟩ hp hsz hk)
  · exact zipG_item_held D1 D2 D hz hT hTI h1 h2 k1 k2 fun x y h' tk hx hy hz' s1 s2 hp hsz hk => wpAny_pure (hQ x y h' tk hx hy ⟨hk _ _ D.TIz D.TIi1 D.TIi2 hTI, s1, s2, .inr ⟨T, true, oT, hz', hk _ _ t1 t2 t3 hT, t1, t2, t3, t4, t5⟩⟩ hp hsz fun c o c1 _ c3 c4 e => hk c o c1 c3 c4 e)
theorem pyNextG_end {lo : Addr} {Q : Option Value → Shared → Prop} (D1 : Draws prog w A.in1 i1 f1 n1 P1 S1) (D2 : Draws prog w A.in1 i2 f2 n2 P2 S2) (D : Ap z TI TO i1 i2 f1 f2) (st : ZSt lo z TI TO i1 i2 S1 S2 k s.heap) (hend : k = n1 ∨ (k < n1 ∧ k = n2))
    (hQ : ∀ h' tk, (∀ c o, c ≠ z → c ≠ TO → c ≠ i1 → c ≠ i2 → s.heap.get? c = some o → h'.get? c = some o) → Q none { s with heap := h', toks := tk }) :
    wpAny (model prog w) A (pyNext (.ref z)) Q E s := by
  obtain ⟨hTI, h1, h2, st⟩ := st
  have hTy : s.TypeIs (.ref z) "zip" := by
    rcases st with ⟨_, hz, _⟩ | ⟨_, _, _, hz, _⟩ <;> exact ⟨_, hz, rfl⟩
  unfold pyNext
  refine wpAny_bind (wpAny_attempt (wpAny_callSpecial?_slot (name := Str.ofString "__next__") hTy F.slot_zip_next
    (wpAny_call_entry F.slot_zip_next hTy F.entry_zip_next ?_ (F.args_zip_next_1 _))))
  rcases st with ⟨rfl, hz, a, b, hTO⟩ | ⟨T, f, oT, hz, hT, t1, t2, t3, t4, t5⟩
  · refine zipG_end D1 D2 D hz hTI hTO h1 h2 hend fun h' e tk hk he => ?_
    obtain ⟨o, ho, hc⟩ := he
    exact wpAny_bind (wpAny_isInstance (T := "StopIteration") (b := true) ⟨o, ho, hc⟩ isSubtype_stop (wpAny_pure (hQ _ _ hk)))
  · refine zipG_end_held D1 D2 D hz hT hTI h1 h2 hend fun h' e tk hk he => ?_
    obtain ⟨o, ho, hc⟩ := he
    exact wpAny_bind (wpAny_isInstance (T := "StopIteration") (b := true) ⟨o, ho, hc⟩ isSubtype_stop (wpAny_pure (hQ _ _ fun c o c1 _ c3 c4 x => hk c o c1 c3 c4 x)))
end
end Pm
namespace Pm
open PySem PySem.Spec PyProof.Rows L2 RZ PySem.W

/-- the pairs that stand at the addresses as -/
structure PairsAt (P1 P2 : Nat → Value → Prop) (lo : Addr) (h : Heap) (as : List Addr) : Prop where
  rise : as.Pairwise (· < ·)
  above : ∀ a ∈ as, lo < a
  pairs : ∀ (j : Nat) (a : Addr), as[j]? = some a → ∃ x y, P1 j x ∧ P2 j y ∧ h.get? a = some { cls := .type "tuple", data := .seq #[x, y] }
theorem PairsAt.there {P1 P2 : Nat → Value → Prop} {lo : Addr} {h : Heap} {as : List Addr} (g : PairsAt P1 P2 lo h as) {a : Addr} (ha : a ∈ as) : a < h.objs.size := by
  obtain ⟨j, hj⟩ := List.mem_iff_getElem?.mp ha
  obtain ⟨_, _, _, _, e⟩ := g.pairs j a hj
  exact Heap.lt_size e
theorem PairsAt.keep {P1 P2 : Nat → Value → Prop} {lo : Addr} {h h' : Heap} {as : List Addr} (g : PairsAt P1 P2 lo h as) (k : ∀ b o, lo < b → h.get? b = some o → h'.get? b = some o) : PairsAt P1 P2 lo h' as :=
  ⟨g.rise, g.above, fun j a hj => let ⟨x, y, h1, h2, e⟩ := g.pairs j a hj; ⟨x, y, h1, h2, k a _ (g.above a (List.mem_of_getElem? hj)) e⟩⟩
structure Lt5 (S z TI TO i1 i2 : Addr) (f1 f2 : List Addr) : Prop where
  z : z < S
  TI : TI < S
  TO : TO < S
  i1 : i1 < S
  i2 : i2 < S
  f1 : ∀ b ∈ f1, b < S
  f2 : ∀ b ∈ f2, b < S
section
variable {prog : Program} {w : World} {A : Around} {E : Value → Shared → Prop} {s : Shared} {R : Result → Shared → Prop} {z TI TO i1 i2 : Addr} {f1 f2 : List Addr} {n1 n2 : Nat} {P1 P2 : Nat → Value → Prop} {S1 S2 : Nat → Heap → Prop}
theorem ZSt.keep {k : Nat} {h h' : Heap} {S : Addr} (D1 : Draws prog w A i1 f1 n1 P1 S1) (D2 : Draws prog w A i2 f2 n2 P2 S2) (st : ZSt S z TI TO i1 i2 S1 S2 k h) (L : Lt5 S z TI TO i1 i2 f1 f2) (kp : ∀ b o, b ≠ S → h.get? b = some o → h'.get? b = some o) : ZSt S z TI TO i1 i2 S1 S2 k h' := by
  obtain ⟨hTI, h1, h2, st⟩ := st
  refine ⟨kp _ _ (Nat.ne_of_lt L.TI) hTI, D1.frame _ _ _ h1 fun b hb o e => kp b o (Nat.ne_of_lt (L.f1 b hb)) e, D2.frame _ _ _ h2 fun b hb o e => kp b o (Nat.ne_of_lt (L.f2 b hb)) e, ?_⟩
  rcases st with ⟨e, hz, a, b, hTO⟩ | ⟨T, f, oT, hz, hT, t⟩
  · exact .inl ⟨e, kp _ _ (Nat.ne_of_lt L.z) hz, a, b, kp _ _ (Nat.ne_of_lt L.TO) hTO⟩
  · exact .inr ⟨T, f, oT, kp _ _ (Nat.ne_of_lt L.z) hz, kp _ _ (Nat.ne_of_gt t.2.2.2.2) hT, t⟩
theorem lz_loop {S : Addr} (D1 : Draws prog w A.in1.in1 i1 f1 n1 P1 S1) (D2 : Draws prog w A.in1.in1 i2 f2 n2 P2 S2) (D : Ap z TI TO i1 i2 f1 f2) (L : Lt5 S z TI TO i1 i2 f1 f2) (hn : min n1 n2 ≤ sizeLine) (res : Value) {h₁ : Heap}
    (hR : ∀ h' tk acc c as, (∀ b o, b ≠ S → b ≠ z → b ≠ TO → b ≠ i1 → b ≠ i2 → h₁.get? b = some o → h'.get? b = some o) → h'.get? S = some { cls := .type "list", dict := none, data := .seq acc c, slots := #[] } → as.length = min n1 n2 → PairsAt P1 P2 S h' as →
      acc.toList = as.map Value.ref → R (.ok (.ret res)) { s with heap := h', toks := tk }) :
    ∀ (m i : Nat) (h : Heap) (tk c : Nat) (acc : Array Value) (as : List Addr), min n1 n2 - i = m → i ≤ min n1 n2 → ZSt S z TI TO i1 i2 S1 S2 i h → (∀ b o, b ≠ S → b ≠ z → b ≠ TO → b ≠ i1 → b ≠ i2 → h₁.get? b = some o → h.get? b = some o) →
      h.get? S = some { cls := .type "list", dict := none, data := .seq acc c, slots := #[] } → acc.toList = as.map Value.ref → as.length = i → PairsAt P1 P2 S h as →
      codeAny (model prog w) A (.builtin "list.extend.loop" ⟨[.ref S, .ref z, res], []⟩) R { s with heap := h, toks := tk } := by
  have up4 : ∀ b, S < b → b ≠ z ∧ b ≠ TO ∧ b ≠ i1 ∧ b ≠ i2 := fun b hb => ⟨Nat.ne_of_gt (Nat.lt_trans L.z hb), Nat.ne_of_gt (Nat.lt_trans L.TO hb), Nat.ne_of_gt (Nat.lt_trans L.i1 hb), Nat.ne_of_gt (Nat.lt_trans L.i2 hb)⟩
  have sz : S ≠ z := Nat.ne_of_gt L.z
  have sTO : S ≠ TO := Nat.ne_of_gt L.TO
  have si1 : S ≠ i1 := Nat.ne_of_gt L.i1
  have si2 : S ≠ i2 := Nat.ne_of_gt L.i2
  intro m
  induction m with
  | zero =>
    intro i h tk c acc as hk hi hst hkeep hS hacc hal hG
    have hin : i = min n1 n2 := by omega
    refine codeAny_builtin PySem.F.entry_extend_loop ?_
    rw [Around.under_plainId PySem.F.plain_extend_loop _]
    show wpAny _ A.in1 (pyNext (.ref z) >>= _) _ _ _
    refine wpAny_bind (pyNextG_end (s := { s with heap := h, toks := tk }) (A := A.in1) D1 D2 D hst (by omega) fun h' tk' he => ?_)
    replace he : ∀ c o, c ≠ z → c ≠ TO → c ≠ i1 → c ≠ i2 → h.get? c = some o → h'.get? c = some o := he
    refine wpAny_pure (hR h' tk' acc c as (fun b o h1 h2 h3 h4 h5 e => he b o h2 h3 h4 h5 (hkeep b o h1 h2 h3 h4 h5 e)) (he S _ sz sTO si1 si2 hS) (by omega) (hG.keep fun b o hb e => he b o (up4 b hb).1 (up4 b hb).2.1 (up4 b hb).2.2.1 (up4 b hb).2.2.2 e) hacc)
  | succ m ih =>
    intro i h tk c acc as hk hi hst hkeep hS hacc hal hG
    have hlt : i < min n1 n2 := by omega
    have hsz : acc.size = i := by rw [← Array.length_toList, hacc, List.length_map, hal]
    have hSl : S < h.objs.size := Heap.lt_size hS
    refine codeAny_builtin PySem.F.entry_extend_loop ?_
    rw [Around.under_plainId PySem.F.plain_extend_loop _]
    show wpAny _ A.in1 (pyNext (.ref z) >>= _) _ _ _
    refine wpAny_bind (pyNextG_item (s := { s with heap := h, toks := tk }) (A := A.in1) D1 D2 D hst (by omega) (by omega) ⟨Nat.lt_trans L.z hSl, Nat.lt_trans L.i1 hSl, Nat.lt_trans L.i2 hSl, Nat.lt_trans L.TO hSl, hSl⟩ fun x y h' tk' hx hy hst' ht hz hkp => ?_)
    replace ht : IsPair h' h.objs.size x y := ht
    replace hz : h'.objs.size = h.objs.size + 1 := hz
    replace hkp : ∀ c o, c ≠ z → c ≠ TO → c ≠ i1 → c ≠ i2 → h.get? c = some o → h'.get? c = some o := hkp
    have hS' := hkp S _ sz sTO si1 si2 hS
    have up : ∀ b o, b ≠ S → h'.get? b = some o → (h'.update S (Obj.mapSeq (·.push (Value.ref h.objs.size)))).get? b = some o := fun b o hb e => (Heap.get?_update_other _ _ (Ne.symm hb)).trans e
    have hG' : PairsAt P1 P2 S h' (as ++ [h.objs.size]) := by
      have g1 := hG.keep (h' := h') fun b o hb e => hkp b o (up4 b hb).1 (up4 b hb).2.1 (up4 b hb).2.2.1 (up4 b hb).2.2.2 e
      refine ⟨List.pairwise_append.mpr ⟨hG.rise, List.pairwise_singleton _ _, fun a ha b hb => ?_⟩, fun a ha => ?_, fun j b hj => ?_⟩
      · rw [List.mem_singleton.mp hb]; exact hG.there ha
      · rcases List.mem_append.mp ha with ha | ha
        · exact hG.above a ha
        · rw [List.mem_singleton.mp ha]; exact hSl
      · rcases Nat.lt_trichotomy j as.length with h1 | h1 | h1
        · rw [List.getElem?_append_left h1] at hj
          exact g1.pairs j b hj
        · subst h1
          have hb : h.objs.size = b := by simpa using hj
          subst hb
          exact ⟨x, y, by rw [hal]; exact hx, by rw [hal]; exact hy, ht⟩
        · have hnone : (as ++ [h.objs.size])[j]? = none := List.getElem?_eq_none (by rw [List.length_append, List.length_singleton]; omega)
          rw [hnone] at hj; cases hj
    show wpAny _ A.in1 (updateSeq S (·.push (Value.ref h.objs.size)) >>= _) _ _ _
    refine wpAny_bind ?_
    refine wpAny_updateSeq hS' rfl (wpAny_pure ⟨plainId_quiet PySem.F.plain_extend_loop _, ih (i + 1) _ tk' _ (acc.push (Value.ref h.objs.size)) (as ++ [h.objs.size]) (by omega) hlt
      (hst'.keep D1 D2 L up) (fun b o h1 h2 h3 h4 h5 e => up b o h1 (hkp b o h2 h3 h4 h5 (hkeep b o h1 h2 h3 h4 h5 e))) (Heap.get?_update_self _ hS' rfl)
      (by rw [Array.toList_push, hacc, List.map_append]; rfl) (by rw [List.length_append, hal]; rfl) (hG'.keep fun b o hb e => up b o (Nat.ne_of_gt hb) e)⟩) (by rw [hsz]; omega) (by show (acc.push (Value.ref h.objs.size)).size ≤ sizeLine + 1; rw [Array.size_push, hsz]; omega)
theorem zip_no_len : typeLookup (.type "zip") "__len__" = pure none := by rw [typeLookup_type, builtinLookup_eq_fast]; kernel_rfl
theorem zip_no_hint : typeLookup (.type "zip") "__length_hint__" = pure none := by rw [typeLookup_type, builtinLookup_eq_fast]; kernel_rfl
/-- list(z), z a new zip -/
theorem lz_call {a b : Value} {Q : Value → Shared → Prop} (D1 : Draws prog w A.in1.in1.in1 i1 f1 n1 P1 S1) (D2 : Draws prog w A.in1.in1.in1 i2 f2 n2 P2 S2) (D : Ap z TI TO i1 i2 f1 f2) (hz : IsZip s.heap z TI TO .none) (hTI : IsPair s.heap TI (.ref i1) (.ref i2)) (hTO : IsPair s.heap TO a b) (h1 : S1 0 s.heap) (h2 : S2 0 s.heap)
    (L : Lt5 s.heap.objs.size z TI TO i1 i2 f1 f2) (hn : min n1 n2 ≤ sizeLine)
    (hQ : ∀ h' tk acc c as, (∀ b o, b ≠ z → b ≠ TO → b ≠ i1 → b ≠ i2 → s.heap.get? b = some o → h'.get? b = some o) → h'.get? s.heap.objs.size = some { cls := .type "list", dict := none, data := .seq acc c, slots := #[] } → as.length = min n1 n2 → PairsAt P1 P2 s.heap.objs.size h' as →
      acc.toList = as.map Value.ref → Q (.ref s.heap.objs.size) { s with heap := h', toks := tk }) :
    wpAny (model prog w) A (call (.type "list") [.ref z]) Q E s := by
  have hSa : s.heap.objs.size ≠ z := Nat.ne_of_gt L.z
  refine callType_codes (Q₁ := fun obj s₁ => obj = .ref s.heap.objs.size ∧ s₁ = { s with heap := s.heap.push { cls := .type "list", data := .seq #[] } }) PySem.F.called_list (PySem.F.typeCall_list_1 _) PySem.F.entry_list_init
    (code_list_new _ ⟨rfl, rfl⟩) fun obj s₁ h₁ => ?_
  obtain ⟨rfl, rfl⟩ := h₁
  have hS : (s.heap.push { cls := .type "list", data := .seq #[] }).get? s.heap.objs.size = some { cls := .type "list", data := .seq #[] } := Heap.get?_push_size _ rfl
  refine ⟨⟨_, hS, rfl⟩, PySem.F.args_list_init_2 _ _, ?_⟩
  show wpAny _ A.in1.in1 (do let old ← Builtin.List.listItems (.ref s.heap.objs.size); Builtin.List.listUpdate (.ref s.heap.objs.size) (fun _ => #[]); letGo old.toList.reverse; Builtin.List.listExtendWith (.ref s.heap.objs.size) (.ref z) .none) _ _ _
  refine wpAny_bind ?_
  unfold Builtin.List.listItems
  refine wpAny_bind (wpAny_seqItems hS rfl (wpAny_pure ?_))
  show wpAny _ A.in1.in1 (updateSeq s.heap.objs.size (fun _ => #[]) >>= fun _ => letGo (#[] : Array Value).toList.reverse >>= fun _ => Builtin.List.listExtendWith (.ref s.heap.objs.size) (.ref z) .none) _ _ _
  refine wpAny_bind (wpAny_updateSeq hS rfl ?_)
  have hS2 := Heap.get?_update_self (Obj.mapSeq (fun _ => (#[] : Array Value))) hS rfl
  refine wpAny_bind (wpAny_letGo ?_)
  unfold Builtin.List.listExtendWith
  have up : ∀ (h : Heap) (f : Obj → Obj), (∀ b o, s.heap.get? b = some o → h.get? b = some o) → ∀ b o, s.heap.get? b = some o → (h.update s.heap.objs.size f).get? b = some o := fun h f q b o e =>
    (Heap.get?_update_other _ _ (Ne.symm (Nat.ne_of_lt (Heap.lt_size e)))).trans (q b o e)
  have k1 : ∀ b o, s.heap.get? b = some o → (s.heap.push { cls := .type "list", data := .seq #[] }).get? b = some o := fun b o e => Heap.get?_push_of_some _ e
  have k2 := up _ (Obj.mapSeq (fun _ => (#[] : Array Value))) k1
  have ty : ∀ {h : Heap}, (∀ b o, s.heap.get? b = some o → h.get? b = some o) → Shared.TypeIs { s with heap := h } (.ref z) "zip" := fun q => ⟨_, q _ _ hz, rfl⟩
  refine wpAny_bind (wpAny_typeOf (ty k2) ?_)
  have e1 : Builtin.List.listSameRef (.ref s.heap.objs.size) (.ref z) = false := by simp [Builtin.List.listSameRef, hSa]
  have e2 : (Value.type "zip" == Value.type "list") = false := by decide
  have e3 : (Value.type "zip" == Value.type "tuple") = false := by decide
  simp only [e1, e2, e3, Bool.or_false, Bool.false_eq_true, if_false]
  refine wpAny_bind (wpAny_pyIter_zip (k2 _ _ hz) ?_)
  refine wpAny_bind (wpAny_holding ?_)
  unfold Builtin.List.listLengthHint
  refine wpAny_bind (wpAny_specialOf (ty k2) zip_no_len ?_)
  show wpAny _ A.in1.in1 (specialOf (Value.ref z) (Str.ofString "__length_hint__") >>= _) _ _ _
  refine wpAny_bind (wpAny_specialOf (ty k2) zip_no_hint ?_)
  refine wpAny_pure ?_
  show wpAny _ A.in1.in1 (rule "list.extend.makes-room" >>= fun _ => Builtin.List.listTouch (.ref s.heap.objs.size) >>= fun _ =>
    again (.builtin "list.extend.loop" ⟨[.ref s.heap.objs.size, .ref z, .none], []⟩)) _ _ _
  refine wpAny_bind (wpAny_rule ?_)
  refine wpAny_bind ?_
  show wpAny _ A.in1.in1 (updateSeq s.heap.objs.size (·.push .none) >>= fun _ => updateSeq s.heap.objs.size (·.pop)) _ _ _
  refine wpAny_bind (wpAny_updateSeq hS2 rfl ?_)
  have hS3 := Heap.get?_update_self (Obj.mapSeq (·.push Value.none)) hS2 rfl
  refine wpAny_updateSeq (hz := by seq_fits) hS3 rfl ?_
  have hS4 := Heap.get?_update_self (Obj.mapSeq (·.pop)) hS3 rfl
  have k4 := up _ (Obj.mapSeq (·.pop)) (up _ (Obj.mapSeq (·.push Value.none)) k2)
  refine wpAny_pure ⟨plainId_quiet PySem.F.plain_extend_loop _, ?_⟩
  refine lz_loop (A := A.in1) (s := s) (h₁ := s.heap) D1 D2 D L hn .none (fun h' tk acc c as hk hS' hl hG hacc => ⟨rfl, hQ h' tk acc c as (fun b o h2 h3 h4 h5 e => hk b o (Nat.ne_of_lt (Heap.lt_size e)) h2 h3 h4 h5 e) hS' hl hG hacc⟩)
    (min n1 n2) 0 _ _ _ #[] [] (Nat.sub_zero _) (Nat.zero_le _) ⟨k4 _ _ hTI, D1.frame _ _ _ h1 fun b hb o e => k4 _ _ e, D2.frame _ _ _ h2 fun b hb o e => k4 _ _ e, .inl ⟨rfl, k4 _ _ hz, a, b, k4 _ _ hTO⟩⟩ (fun b o _ _ _ _ _ e => k4 b o e) hS4 rfl rfl ⟨List.Pairwise.nil, fun _ ha => (nomatch ha), fun j a hj => by simp at hj⟩
end
end Pm
namespace Pm
open PySem PySem.Spec PyProof.Rows L2 RZ PySem.W

theorem drawsTup {prog : Program} {w : World} {A : Around} (hh : A.handled = none) (it l : Addr) (hne : l ≠ it) (items : Array Value) :
    Draws prog w A it [it, l] items.size (fun i v => items[i]? = some v) (fun i h => h.IsTupleIter it l i ∧ h.IsTuple l items) where
  live := fun _ _ st => let ⟨o, ho, _⟩ := st.1; ⟨o, ho⟩
  frame := fun _ _ _ st hk => ⟨st.1.at fun o e => hk it (by simp) o e, st.2.at fun o e => hk l (by simp) o e⟩
  item := fun i s Q E hi st hQ => by
    refine nextOf_tuple_item st.1 st.2 (x := items[i]) (by simp [hi]) fun h' hit' hs' => ?_
    exact hQ _ h' s.toks (by simp [hi]) ⟨hit', st.2.extBut hs'.extBut hne⟩ hs'
  done := fun s Q E st hE => nextOf_tuple_end hh st.1 st.2 (by simp) hE
section
variable {fs ex : List Addr} {H H' : Hp} {h h' : Heap}
theorem Un.more (k : ∀ b u, h.get? b = some u → h'.get? b = some u) (g : ∀ b u, H b = some u → H' b = some u) (n : ∀ b u, H' b = some u → H b = some u ∨ h.objs.size ≤ b) : Un fs ex H H' h h' where
  keep := fun b u q _ _ _ => k b u q
  slot := fun b u q _ _ _ => ⟨u.slots, k b u q⟩
  free := fun b u q nb _ => by
    cases e : H' b with
    | none => rfl
    | some o =>
      rcases n b o e with z | z
      · rw [nb] at z; cases z
      · exact absurd (Heap.lt_size q) (Nat.not_lt.mpr z)
  there := fun b u q _ => ⟨u, k b u q⟩
  tups := fun b xs q => g b _ q
  frzs := fun b u xs q => g b _ q
  tbls := fun b ps q => ⟨#[], by rw [g b _ q]; simp⟩
theorem Inv.more {X : Cx} {pins : List (Addr × Obj)} {σ : L2.St} {s : Shared} {t' : Nat} (I : Inv X pins σ H s) (k : ∀ b u, s.heap.get? b = some u → h'.get? b = some u) (g : ∀ b u, H b = some u → H' b = some u)
    (n : ∀ b u, H' b = some u → H b = some u ∨ (s.heap.objs.size ≤ b ∧ ObjOk X.prog X.w H' h' b u)) : Inv X pins σ H' { s with heap := h', toks := t' } := by
  refine I.un (Un.more k g fun b u e => (n b u e).imp id fun z => z.1) fun b u e => ?_
  rcases n b u e with z | z
  · exact (I.hok b u z).stay (fun c v _ q => k c v q) (fun c q => g c _ q) fun c xs q => g c _ q
  · exact z.2
end
/-- the heap behind list(zip(..)) -/
def zipHp (H : Hp) (S : Addr) (as : List Addr) (xs ys : List V) : Hp := fun a => if a = S then some (.lst (as.map V.ref)) else if a ∈ as then some (.tup [xs.getD (as.idxOf a) .non, ys.getD (as.idxOf a) .non]) else H a
theorem PairsAt.lt {P1 P2 : Nat → Value → Prop} {lo : Addr} {h : Heap} {as : List Addr} (g : PairsAt P1 P2 lo h as) : as.Nodup := g.rise.imp fun h => Nat.ne_of_lt h
theorem lz_fin {X : Cx} {pins : List (Addr × Obj)} {σ : L2.St} {H1 : Hp} {s1 : Shared} {h' : Heap} {t' c S : Nat} {acc : Array Value} {as : List Addr} {xs ys : List V} {its its2 : List Value} (I : Inv X pins σ H1 s1) (rx : Vals xs its) (ry : Vals ys its2) (hz : min xs.length ys.length ≤ sizeLine)
    (k : ∀ b u, s1.heap.get? b = some u → h'.get? b = some u) (hS : h'.get? S = some { cls := .type "list", dict := none, data := .seq acc c, slots := #[] }) (hlo : s1.heap.objs.size ≤ S) (hl : as.length = min its.length its2.length)
    (G : PairsAt (fun i v => its.toArray[i]? = some v) (fun i v => its2.toArray[i]? = some v) S h' as) (hacc : acc.toList = as.map Value.ref) :
    Inv X pins σ (zipHp H1 S as xs ys) { s1 with heap := h', toks := t' } ∧ (∀ c o, H1 c = some o → zipHp H1 S as xs ys c = some o) ∧ H1 S = none ∧ zipHp H1 S as xs ys S = some (.lst (as.map V.ref)) ∧ as.length = min xs.length ys.length ∧
      (∀ (j : Nat) (c : Addr), as[j]? = some c → H1 c = none ∧ ∃ x y, xs[j]? = some x ∧ ys[j]? = some y ∧ zipHp H1 S as xs ys c = some (.tup [x, y])) := by
  have l1 := rx.length
  have l2 := ry.length
  have nS : H1 S = none := I.hok.fresh hlo
  have na : ∀ a ∈ as, H1 a = none := fun a ha => I.hok.fresh (Nat.le_trans hlo (Nat.le_of_lt (G.above a ha)))
  have hS0 : zipHp H1 S as xs ys S = some (.lst (as.map V.ref)) := if_pos rfl
  have old : ∀ c o, H1 c = some o → zipHp H1 S as xs ys c = some o := fun c o e => by
    unfold zipHp
    rw [if_neg (fun z => by subst z; rw [nS] at e; cases e), if_neg (fun z => by rw [na c z] at e; cases e)]
    exact e
  have hla : as.length = min xs.length ys.length := by rw [hl]; omega
  have at_ : ∀ (j : Nat) (c : Addr), as[j]? = some c → ∃ x y u v, xs[j]? = some x ∧ ys[j]? = some y ∧ zipHp H1 S as xs ys c = some (.tup [x, y]) ∧ RelV x u ∧ RelV y v ∧ h'.get? c = some { cls := .type "tuple", data := .seq #[u, v] } := fun j c hj => by
    obtain ⟨hjl, hjc⟩ := List.getElem?_eq_some_iff.mp hj
    obtain ⟨u, v, hu, hv, e⟩ := G.pairs j c hj
    have hjx : j < xs.length := by omega
    have hjy : j < ys.length := by omega
    obtain ⟨u', hu', ru⟩ := rx.get (List.getElem?_eq_getElem hjx)
    obtain ⟨v', hv', rv⟩ := ry.get (List.getElem?_eq_getElem hjy)
    have eu : u' = u := by rw [List.getElem?_toArray] at hu; rw [hu] at hu'; exact (Option.some.inj hu').symm
    have ev : v' = v := by rw [List.getElem?_toArray] at hv; rw [hv] at hv'; exact (Option.some.inj hv').symm
    subst eu ev
    refine ⟨xs[j], ys[j], u', v', List.getElem?_eq_getElem hjx, List.getElem?_eq_getElem hjy, ?_, ru, rv, e⟩
    have ne : c ≠ S := Nat.ne_of_gt (G.above c (List.mem_of_getElem? hj))
    have ix : as.idxOf c = j := by rw [← hjc]; exact G.lt.idxOf_getElem j hjl
    unfold zipHp
    rw [if_neg ne, if_pos (List.mem_of_getElem? hj), ix, List.getD_eq_getElem?_getD, List.getD_eq_getElem?_getD, List.getElem?_eq_getElem hjx, List.getElem?_eq_getElem hjy]
    rfl
  refine ⟨Inv.more I k old fun b u e => ?_, old, nS, hS0, hla, fun j c hj => ?_⟩
  · by_cases hb : b = S
    · subst hb
      rw [hS0] at e
      cases e
      refine .inr ⟨hlo, ?_, acc.toList, c, ?_, by rw [Array.toArray_toList]; exact hS⟩
      · rw [List.length_map, hla]; exact hz
      · rw [hacc]; exact vals_refs as
    · by_cases hm : b ∈ as
      · obtain ⟨j, hj⟩ := List.mem_iff_getElem?.mp hm
        obtain ⟨x, y, u', v', _, _, h3, r1, r2, h4⟩ := at_ j b hj
        rw [h3] at e
        cases e
        exact .inr ⟨Nat.le_trans hlo (Nat.le_of_lt (G.above b hm)), by show 2 ≤ sizeLine; decide, [u', v'], .cons r1 (.cons r2 .nil), _, h4, rfl, _, rfl⟩
      · unfold zipHp at e
        rw [if_neg hb, if_neg hm] at e
        exact .inl e
  · obtain ⟨x, y, u', v', h1, h2, h3, _⟩ := at_ j c hj
    exact ⟨na c (List.mem_of_getElem? hj), x, y, h1, h2, h3⟩
def tLz (K : PySem.W.Frag) (ta : TA) : TE := fun σ H Q => ta σ H fun vs H1 => ∃ a b xs ys, vs = [.ref a, .ref b] ∧ ((SqL K H1 a xs ∧ SqL K H1 b ys) ∨ (SqT K H1 a xs ∧ SqT K H1 b ys)) ∧ min xs.length ys.length ≤ sizeLine ∧
  ∀ (H' : Hp) (S : Addr) (as : List Addr), (∀ c o, H1 c = some o → H' c = some o) → H1 S = none → H' S = some (.lst (as.map V.ref)) → as.length = min xs.length ys.length → (∀ (j : Nat) (c : Addr), as[j]? = some c → H1 c = none ∧ ∃ x y, xs[j]? = some x ∧ ys[j]? = some y ∧ H' c = some (.tup [x, y])) → Q (.ref S) H'
theorem pe_listzip {X : Cx} {e e2 : Expr} {ta : TA} {p p2 pos pos2 : Pos} (hc : X.calm = true) (hgl : Gl X "list") (hml : X.mg "list" = none) (hg : Gl X "zip") (hm : X.mg "zip" = none) (ha : PA X [e, e2] ta)
    (hs : starEach [e, e2] X.env = (false, eval e X.env) :: starEach [e2] X.env := by rfl) (hpl : (backTo pos2 (starEach [e2] X.env)).any (·.1) = false := by rfl)
    (ho : starEach [Expr.Call (.Name "zip" p2) [e, e2] [] pos2] X.env = (false, eval (.Call (.Name "zip" p2) [e, e2] [] pos2) X.env) :: starEach [] X.env := by rfl) :
    PE X (.Call (.Name "list" p) [.Call (.Name "zip" p2) [e, e2] [] pos2] [] pos) (tLz X.K ta) := by
  refine ⟨fun pins s σ H Q I h => ?_⟩
  refine Call_ (ld_blt I hgl hml (show bootBuiltins "list" = some (.type "list") by decide +kernel) (PyProof.Rows.callWith_type1 ?_ ho rfl))
  rw [ho]
  show wpAny _ _ (spliced ((false, eval (.Call (.Name "zip" p2) [e, e2] [] pos2) X.env) :: backTo pos (starEach [] X.env))) _ _ s
  refine Calls.spliced_cons ?_
  refine Call_ (ld_blt I hg hm PyProof.Rows.boot_zip (PyProof.Rows.callWith_type1 (thn (ha.run pos2 pins s σ H _ I h) fun us s1 ⟨vs, H1, I1, r1, q1⟩ => ?_) hs hpl))
  obtain ⟨a, b, xs, ys, ex, hk, hz, q⟩ := q1
  subst ex
  cases r1 with
  | cons r rr =>
    cases rr with
    | cons r' rr =>
      cases rr
      cases r
      cases r'
      have hh : X.A.in1.in1.in1.handled = none := I1.ok.hd hc
      have nn : ∀ {a b : Nat}, a < b → a ≠ b := fun h => Nat.ne_of_lt h
      have ap : ∀ (N a b : Nat), a < N → b < N → Ap (N + 4) (N + 2) (N + 3) N (N + 1) [N, a] [N + 1, b] := fun N a b h1 h2 => by
        constructor <;> (try simp only [List.mem_cons, List.not_mem_nil, or_false, not_or, ne_eq]) <;> (try constructor) <;> (show ¬ (_ : Nat) = _; omega)
      have lt : ∀ (N a b : Nat), a < N → b < N → Lt5 (N + 5) (N + 4) (N + 2) (N + 3) N (N + 1) [N, a] [N + 1, b] := fun N a b h1 h2 => by
        constructor <;> first | (show (_ : Nat) < _; omega) | (intro c hc; simp only [List.mem_cons, List.not_mem_nil, or_false] at hc; rcases hc with rfl | rfl <;> (show (_ : Nat) < _; omega))
      have key : ∀ (h' : Heap) (its its2 : List Value), Vals xs its → Vals ys its2 → h'.objs.size = s1.heap.objs.size + 5 → (∀ c o, s1.heap.get? c = some o → h'.get? c = some o) → ∀ (h'' : Heap) (tk : Nat) (acc : Array Value) (c : Nat) (as : List Addr),
          (∀ b o, b ≠ s1.heap.objs.size + 4 → b ≠ s1.heap.objs.size + 3 → b ≠ s1.heap.objs.size → b ≠ s1.heap.objs.size + 1 → h'.get? b = some o → h''.get? b = some o) → h''.get? h'.objs.size = some { cls := .type "list", dict := none, data := .seq acc c, slots := #[] } → as.length = min its.toArray.size its2.toArray.size →
          PairsAt (fun i v => its.toArray[i]? = some v) (fun i v => its2.toArray[i]? = some v) h'.objs.size h'' as → acc.toList = as.map Value.ref → EP X pins σ Q (.ref h'.objs.size) { s1 with heap := h'', toks := tk } := fun h' its its2 rx ry hsz hk' h'' tk acc c as kp hS hl G hacc => by
        have kk : ∀ b u, s1.heap.get? b = some u → h''.get? b = some u := fun b u e => by
          have hb : b < s1.heap.objs.size := Heap.lt_size e
          exact kp b u (nn (Nat.lt_of_lt_of_le hb (Nat.le_add_right _ _))) (nn (Nat.lt_of_lt_of_le hb (Nat.le_add_right _ _))) (nn hb) (nn (Nat.lt_of_lt_of_le hb (Nat.le_add_right _ _))) (hk' b u e)
        obtain ⟨J, g1, g2, g3, g4, g5⟩ := lz_fin (t' := tk) I1 rx ry hz kk hS (by rw [hsz]; exact Nat.le_add_right _ _) (by simpa using hl) G hacc
        exact ⟨.ref h'.objs.size, _, J, rfl, q _ _ as g1 g2 g3 g4 g5⟩
      rcases hk with ⟨hqx, hqy⟩ | ⟨hqx, hqy⟩
      · obtain ⟨its, rv, p1, _⟩ := I1.list hqx
        obtain ⟨its2, rv2, p2, _⟩ := I1.list hqy
        refine call_zip_2 p1.isList p2.isList fun h' hz' hTI hTO h1 h2 hsz hk => Calls.spliced_nil ?_
        have L1 := p1.isList
        have L2' := p2.isList
        refine lz_call (s := { s1 with heap := h' }) (Draws.list (prog := X.prog) (w := X.w) (A := X.A.in1.in1.in1) hh s1.heap.objs.size a (nn p1.lt) its.toArray) (Draws.list (prog := X.prog) (w := X.w) (A := X.A.in1.in1.in1) hh (s1.heap.objs.size + 1) b (nn (Nat.lt_trans p2.lt (Nat.lt_succ_self _))) its2.toArray) (ap _ _ _ p1.lt p2.lt) hz' hTI hTO ⟨h1, L1.at fun o e => hk _ o e⟩ ⟨h2, L2'.at fun o e => hk _ o e⟩
          (by rw [hsz]; exact lt _ _ _ p1.lt p2.lt) ?_ fun h'' tk acc c as kp hS hl G hacc => key h' its its2 rv rv2 hsz hk h'' tk acc c as kp hS hl G hacc
        have := rv.length
        have := rv2.length
        simp only [List.size_toArray]
        omega
      · obtain ⟨its, rv, p1, _⟩ := I1.tuple hqx
        obtain ⟨its2, rv2, p2, _⟩ := I1.tuple hqy
        obtain ⟨o1, ho1, _⟩ := id p1
        obtain ⟨o2, ho2, _⟩ := id p2
        have L1 : s1.heap.IsTuple a its.toArray := p1
        have L2' : s1.heap.IsTuple b its2.toArray := p2
        refine call_zipT L1 L2' fun h' hz' hTI hTO h1 h2 hsz hk => Calls.spliced_nil ?_
        refine lz_call (s := { s1 with heap := h' }) (drawsTup (prog := X.prog) (w := X.w) (A := X.A.in1.in1.in1) hh s1.heap.objs.size a (nn (Heap.lt_size ho1)) its.toArray) (drawsTup (prog := X.prog) (w := X.w) (A := X.A.in1.in1.in1) hh (s1.heap.objs.size + 1) b (nn (Nat.lt_trans (Heap.lt_size ho2) (Nat.lt_succ_self _))) its2.toArray) (ap _ _ _ (Heap.lt_size ho1) (Heap.lt_size ho2)) hz' hTI hTO ⟨h1, L1.at fun o e => hk _ o e⟩ ⟨h2, L2'.at fun o e => hk _ o e⟩
          (by rw [hsz]; exact lt _ _ _ (Heap.lt_size ho1) (Heap.lt_size ho2)) ?_ fun h'' tk acc c as kp hS hl G hacc => key h' its its2 rv rv2 hsz hk h'' tk acc c as kp hS hl G hacc
        have := rv.length
        have := rv2.length
        simp only [List.size_toArray]
        omega
/-! ### list(zip(..)) told by data -/
theorem DRs.of_get {K : PySem.W.Frag} {ws : Wa} {B : Addr → Prop} {H : Hp} : ∀ {vs : List V} {ds : List D}, vs.length = ds.length → (∀ (j : Nat) v d, vs[j]? = some v → ds[j]? = some d → DR K ws B H v d) → DRs K ws B H vs ds
  | [], [], _, _ => .nil
  | v :: vs, d :: ds, hl, h => .cons (h 0 v d rfl rfl) (DRs.of_get (by simpa using hl) fun j v d h1 h2 => h (j + 1) v d (by simpa using h1) (by simpa using h2))
  | [], _ :: _, hl, _ => by cases hl
  | _ :: _, [], hl, _ => by cases hl
def fLz (g : M (List D)) : M D := g.bind fun l => match l with
  | [x, y] => (M.opt (zipD x y)).bind fun l => M.pure (.lst l)
  | _ => M.bad
theorem m_listzip {X : Cx} {Wx : WX} {a b : Expr} {pos pos2 p p2 : Pos} {g : An} (hc : X.calm = true) (ha : PAm X Wx [a, b] g) (hml : X.mg "list" = none) (hm : X.mg "zip" = none) (hgl : Gl X "list" := by rfl) (hg : Gl X "zip" := by rfl)
    (hs : starEach [a, b] X.env = (false, eval a X.env) :: starEach [b] X.env := by rfl) (hpl : (backTo pos2 (starEach [b] X.env)).any (·.1) = false := by rfl)
    (ho : starEach [Expr.Call (.Name "zip" p2) [a, b] [] pos2] X.env = (false, eval (.Call (.Name "zip" p2) [a, b] [] pos2) X.env) :: starEach [] X.env := by rfl) :
    PEm X Wx (.Call (.Name "list" p) [.Call (.Name "zip" p2) [a, b] [] pos2] [] pos) (fun sl => fLz (g sl)) := by
  refine (pe_listzip hc hgl hml hg hm ha hs hpl ho).mimp fun σ H Q ⟨ws, B0, sl, w, e, h⟩ => ?_
  refine ⟨ws, B0, sl, w, e, (runAt.bind h).mono fun ws1 w1 ds H1 l1 e2 h1 vs hv => ?_⟩
  match ds, h1, hv with
  | [x, y], h2, .cons rx (.cons ry .nil) =>
    have h2 : runAt X.K X.mg Wx ws1 B0 sl σ H1 (((M.opt (zipD x y)).bind fun l => M.pure (D.lst l)) w1) _ := h2
    cases q : zipD x y with
    | none => rw [q] at h2; exact h2.elim
    | some l =>
      rw [q] at h2
      have fin : ∀ {xs ys : List V} {l1 l2 : List D}, l.length ≤ sizeLine → DRs X.K ws1 (Bad ws1 B0 sl σ) H1 xs l1 → DRs X.K ws1 (Bad ws1 B0 sl σ) H1 ys l2 → l = zipL l1 l2 → min xs.length ys.length ≤ sizeLine ∧
          ∀ (H' : Hp) (S : Addr) (as : List Addr), (∀ c o, H1 c = some o → H' c = some o) → H1 S = none → H' S = some (.lst (as.map V.ref)) → as.length = min xs.length ys.length → (∀ (j : Nat) (c : Addr), as[j]? = some c → H1 c = none ∧ ∃ x y, xs[j]? = some x ∧ ys[j]? = some y ∧ H' c = some (.tup [x, y])) → Q (.ref S) H' := by
        intro xs ys d1 d2 hz r1 r2 hl
        have n1 := r1.length
        have n2 := r2.length
        have n3 := zipL_len d1 d2
        refine ⟨by rw [n1, n2, ← n3, ← hl]; exact hz, fun H' S as gr nS hS hla hp => ?_⟩
        have g : Grow H1 H' := gr
        refine runAt.grow g e2 h2 _ (.lst hz (fun z => e2.bad S z nS) hS (DRs.of_get (by rw [List.length_map, hla, hl, n3, n1, n2]) fun j v d hv hd => ?_))
        rw [List.getElem?_map] at hv
        cases hj : as[j]? with
        | none => rw [hj] at hv; cases hv
        | some c =>
          rw [hj] at hv
          cases hv
          obtain ⟨nc, u, v, h1, h2, h3⟩ := hp j c hj
          rw [hl] at hd
          obtain ⟨dx, dy, q1, q2, rfl⟩ := zipL_get hd
          obtain ⟨dx', q3, q4⟩ := r1.getV h1
          obtain ⟨dy', q5, q6⟩ := r2.getV h2
          rw [q1] at q3
          rw [q2] at q5
          cases q3
          cases q5
          exact .tup (by show 2 ≤ sizeLine; decide) (.inl ⟨fun z => e2.bad c z nc, .inl h3⟩) (.cons (q4.grow g) (.cons (q6.grow g) .nil))
      rcases zipD_cases q with ⟨xs, ys, rfl, rfl, hl⟩ | ⟨xs, ys, hx, hy, hl⟩
      · cases rx with
        | tup z1 t1 r1 =>
          cases ry with
          | tup z2 t2 r2 =>
            exact ⟨_, _, _, _, rfl, .inr ⟨t1.sq, t2.sq⟩, fin (by rw [hl, zipL_len]; omega) r1 r2 hl⟩
      · have hz : l.length ≤ sizeLine := by
          rw [hl, zipL_len]
          cases rx with
          | lst z _ _ _ => cases hx; omega
          | scr _ _ =>
            cases ry with
            | lst z _ _ _ => cases hy; omega
            | scr _ _ => cases q
            | _ => cases hy
          | _ => cases hx
        obtain ⟨a1, vs1, rfl, t1, r1⟩ := dr_lst rx hx
        obtain ⟨a2, vs2, rfl, t2, r2⟩ := dr_lst ry hy
        exact ⟨_, _, _, _, rfl, .inl ⟨t1.sq, t2.sq⟩, fin hz r1 r2 hl⟩
end Pm
namespace Pm
open PySem PySem.Spec PyProof.Rows L2 RZ

/-! ### enumerate of a tuple -/
theorem meets_enumT (l : Addr) (items : Array Value) :
    Meets (Builtin.«enumerate.__new__» ⟨[.type "enumerate", .ref l], []⟩) (fun _ R s => s.heap.IsTuple l items ∧
      R (.ok (.ret (.ref (s.heap.push { cls := .type "tuple_iterator", data := .fields #[.ref l, .int 0 0] }).objs.size)))
        { s with heap := (s.heap.push { cls := .type "tuple_iterator", data := .fields #[.ref l, .int 0 0] }).push { cls := .type "enumerate", data := .fields #[.none, .bool false, .ref s.heap.objs.size, rawInt 0, .none, .none] } }) :=
  .of_wp fun prog w A R s h => by
    obtain ⟨hp, g, d, tk, os⟩ := s
    obtain ⟨hl, h⟩ := h
    have hsub := sub_enumerate
    have hL : Heap.IsTuple (Shared.heap ⟨hp, g, d, tk, os⟩) l items := hl
    wp_walk
    refine wpAny_stack_any fun st => wpAny_pure ?_
    split
    · rename_i c _ _ _ _ _
      cases (c == Value.type "enumerate")
      · wp_walk using wpAny_pyIter_tuple hL
        exact ⟨_, rfl, h⟩
      · wp_walk using wpAny_pyIter_tuple hL
        exact ⟨_, rfl, h⟩
    · wp_walk using wpAny_pyIter_tuple hL
      exact ⟨_, rfl, h⟩
theorem call_enumT {prog : Program} {w : World} {A : Around} {E : Value → Shared → Prop} {s : Shared} {l : Addr} {items : Array Value} {Q : Value → Shared → Prop} (hL : s.heap.IsTuple l items)
    (h : ∀ h', IsEnum h' (s.heap.objs.size + 1) s.heap.objs.size 0 .none → h'.IsTupleIter s.heap.objs.size l 0 → h'.objs.size = s.heap.objs.size + 2 →
      (∀ b o, s.heap.get? b = some o → h'.get? b = some o) → Q (.ref (s.heap.objs.size + 1)) { s with heap := h' }) :
    wpAny (model prog w) A (call (.type "enumerate") [.ref l]) Q E s := by
  refine callType_new F.called_enumerate (by decide) (F.typeCall_enumerate_1 _) (F.newCall_enumerate_1 _) (fun obj => F.args_object_init_2 obj _) F.entry_enumerate_new (meets_enumT l items) ⟨hL, ?_⟩
  have hz : (s.heap.push { cls := .type "tuple_iterator", data := .fields #[.ref l, .int 0 0] }).objs.size = s.heap.objs.size + 1 := Heap.size_push ..
  show _ ∧ _
  rw [hz]
  have he : IsEnum ((s.heap.push { cls := .type "tuple_iterator", data := .fields #[.ref l, .int 0 0] }).push
      { cls := .type "enumerate", data := .fields #[.none, .bool false, .ref s.heap.objs.size, rawInt 0, .none, .none] }) (s.heap.objs.size + 1) s.heap.objs.size 0 .none := by
    have q := Heap.get?_push_size (s.heap.push { cls := .type "tuple_iterator", data := .fields #[.ref l, .int 0 0] })
      (o := { cls := .type "enumerate", data := .fields #[.none, .bool false, .ref s.heap.objs.size, rawInt 0, .none, .none] }) rfl
    rwa [hz] at q
  exact ⟨⟨_, he, rfl⟩, h _ he ⟨_, Heap.get?_push_of_some _ (Heap.get?_push_size _ rfl), rfl, rfl⟩ (by rw [Heap.size_push, hz]) fun b o x => Heap.get?_push_of_some _ (Heap.get?_push_of_some _ x)⟩
def ItEt (K : PySem.W.Frag) (a : Addr) : It :=
  ⟨fun i H => ∃ (xs : List V) (x : V), SqT K H a xs ∧ xs[i]? = some x, fun i H v H' => ∃ T x, v = .ref T ∧ H T = none ∧ H' = upd H T (.tup [.int (i : Nat), x]) ∧ ∀ xs, SqT K H a xs → xs[i]? = some x, fun i H => ∃ xs : List V, SqT K H a xs ∧ xs.length ≤ i⟩
theorem turn_enumT {P : Program} {w : World} {K : PySem.W.Frag} {elts : List Expr} {kk : Nat} {tpos : Pos} (a e it : Addr) (hai : a ≠ it) (hae : a ≠ e) :
    Turn P w K (.Tuple elts kk tpos) (ItEt K a) [e, it] e (fun i h => (∃ old, IsEnum h e it ((i : Nat) : Int) old) ∧ h.IsTupleIter it a i ∧ e ≠ it) where
  mem := by simp
  obj := fun i h st b hb => by
    obtain ⟨⟨old, he⟩, ⟨o, ho, hc, hd⟩, _⟩ := st
    have e' : b = e ∨ b = it := by simpa using hb
    rcases e' with z | z
    · rw [z]; exact ⟨_, he, fun v q => nomatch q⟩
    · rw [z]; exact ⟨o, ho, fun v q => by rw [hd] at q; cases q⟩
  keep := fun i h h' st k => let ⟨⟨old, he⟩, hi, hne⟩ := st; ⟨⟨old, k e (by simp) _ he⟩, hi.at fun o q => k it (by simp) o q, hne⟩
  item := by
    intro X hP hw hK hc i pins s σ H E I hf st hg
    subst hP hw hK
    obtain ⟨⟨old, he⟩, hit, hne⟩ := st
    obtain ⟨xs, x, hq, hx⟩ := hg
    obtain ⟨its, rv, p, hz⟩ := I.tuple hq
    obtain ⟨u, hu, ru⟩ := rv.get hx
    have hel : e < s.heap.objs.size := Heap.lt_size he
    have hil : it < s.heap.objs.size := by obtain ⟨_, q, _⟩ := hit; exact Heap.lt_size q
    have hh : X.A.in1.handled = none := I.ok.hd hc
    have hlt : i < its.toArray.size := by have := (List.getElem?_eq_some_iff.mp hu).1; simpa using this
    refine wpAny_pyNext_enum_itemD (drawsTup hh it a hai its.toArray) he ⟨hit, p⟩ hlt hne (by simp only [List.mem_cons, List.not_mem_nil, or_false, not_or]; exact ⟨hne, Ne.symm hae⟩) fun x' h' tk hP ho hit' hT hsz hk => ?_
    have ex : x' = u := by
      have hP' : its.toArray[i]? = some x' := hP
      rw [List.getElem?_toArray, hu] at hP'
      exact (Option.some.inj hP').symm
    subst ex
    refine ⟨_, rfl, wpAny_letOwnedTupleGo_enum (s := { s with heap := h', toks := tk + 1 }) ho fun h'' he' sb => ?_⟩
    have hT2 : h''.get? s.heap.objs.size = some { cls := .type "tuple", data := .seq #[.int i tk, x'] } := (sb.2 _ (Nat.ne_of_gt hel)).trans hT
    have new : ObjOk X.prog X.w (upd H s.heap.objs.size (.tup [.int (i : Nat), x])) h'' s.heap.objs.size (.tup [.int (i : Nat), x]) :=
      ⟨by show 2 ≤ sizeLine; decide, [.int i tk, x'], .cons ⟨_, rfl⟩ (.cons ru .nil), ⟨_, hT2, rfl, _, rfl⟩⟩
    have I1 : Inv X pins σ (upd H s.heap.objs.size (.tup [.int (i : Nat), x])) { s with heap := h'', toks := tk + 1 } :=
      I.turnedNew (ch := [e, it]) (fun b ob hb q => (sb.2 b (fun z => hb (by simp [z]))).trans (hk b ob (fun z => hb (by simp [z])) (fun z => hb (by simp [z])) q)) hf (Nat.le_refl _) new
    refine ⟨.ref s.heap.objs.size, _, I1, rfl, ⟨_, x, rfl, I.hok.fresh (Nat.le_refl _), rfl, fun ys hy => by rw [I.tuple_inj hy hq]; exact hx⟩, ⟨⟨x', ?_⟩, hit'.1.at fun o q => (sb.2 it (Ne.symm hne)).trans q, hne⟩, fun b hb => ?_⟩
    · have e1 : ((i + 1 : Nat) : Int) = (i : Int) + 1 := by omega
      rw [e1]; exact he'
    · have hb' : b < s.heap.objs.size := by
        have e' : b = e ∨ b = it := by simpa using hb
        rcases e' with z | z
        · rw [z]; exact hel
        · rw [z]; exact hil
      rw [upd_ne (Nat.ne_of_lt hb')]
      exact (hf b hb).1
  done := by
    intro X hP hw hK hc i pins s σ H E I hf st hg
    subst hP hw hK
    obtain ⟨⟨old, he⟩, hit, hne⟩ := st
    obtain ⟨xs, hq, hx⟩ := hg
    obtain ⟨its, rv, p, hz⟩ := I.tuple hq
    have hl := rv.length
    have hh : X.A.in1.handled = none := I.ok.hd hc
    have hT : s.TypeIs (.ref e) "enumerate" := ⟨_, he, rfl⟩
    unfold pyNext
    refine wpAny_bind (wpAny_attempt (wpAny_callSpecial?_slot (name := Str.ofString "__next__") hT F.slot_enumerate_next (wpAny_call_entry F.slot_enumerate_next hT F.entry_enumerate_next ?_ (F.args_enumerate_next_1 _))))
    show wpAny _ _ (field (.ref e) 2 >>= _) _ _ s
    refine wpAny_bind (wpAny_field he rfl (x := .ref it) rfl (wpAny_bind (nextOf_tuple_end hh hit p (by simp; omega) fun h' x eb hx' => ?_)))
    obtain ⟨o, ho, hcl⟩ := hx'
    exact wpAny_bind (wpAny_isInstance (T := "StopIteration") (b := true) ⟨o, ho, hcl⟩ isSubtype_stop (wpAny_pure ⟨rfl, I.turnedL (t' := s.toks) (ch := [e, it]) (fun b o hb q => eb b o (fun z => hb (by simp [z])) q) hf⟩))
  self := fun A i s Q E st h => let ⟨⟨_, he⟩, _⟩ := st; wpAny_pyIter_enum he h
def iEnumA (K : PySem.W.Frag) (ta : TA) : TI := fun σ H R => ta σ H fun vs H1 => ∃ a xs, vs = [.ref a] ∧ ((SqL K H1 a xs ∧ R (Ite K a) H1) ∨ (SqT K H1 a xs ∧ R (ItEt K a) H1))
theorem pi_enumA {X : Cx} {e : Expr} {ta : TA} {p pos tpos : Pos} {elts : List Expr} {kk : Nat} (hg : Gl X "enumerate") (hm : X.mg "enumerate" = none) (ha : PA X [e] ta) (hs : starEach [e] X.env = [(false, eval e X.env)] := by rfl) :
    PI X (.Tuple elts kk tpos) (.Call (.Name "enumerate" p) [e] [] pos) (iEnumA X.K ta) := by
  refine ⟨fun pins s σ H R I h => ?_⟩
  refine Call_ (ld_blt I hg hm boot_enumerate (PyProof.Rows.callWith_type1 (thn (ha.run pos pins s σ H _ I h) fun us s1 ⟨vs, H1, I1, r1, q1⟩ => ?_) hs rfl))
  obtain ⟨a, xs, ex, q⟩ := q1
  subst ex
  have fp2 : ∀ b ∈ [s1.heap.objs.size + 1, s1.heap.objs.size], FpOk X pins H1 b := fun b hb => by
    have hle : s1.heap.objs.size ≤ b := by
      rcases (show b = s1.heap.objs.size + 1 ∨ b = s1.heap.objs.size by simpa using hb) with z | z
      · rw [z]; exact Nat.le_add_right _ _
      · rw [z]; exact Nat.le_refl _
    exact I1.fpOk hle (I1.hok.fresh hle)
  cases r1 with
  | cons r rr =>
    cases rr
    cases r
    rcases q with ⟨hq, q⟩ | ⟨hq, q⟩
    · obtain ⟨its, rv, p', hz⟩ := I1.list hq
      refine call_enumerate_list p'.isList fun h' he hit hsz hk => wpAny_pyIter_enum he ?_
      have I2 : Inv X pins σ H1 { s1 with heap := h' } := I1.kept (t' := s1.toks) hk
      exact ⟨s1.heap.objs.size + 1, [s1.heap.objs.size + 1, s1.heap.objs.size], _, _, H1, rfl, I2, turn_enum a (s1.heap.objs.size + 1) s1.heap.objs.size, ⟨⟨.none, he⟩, hit, Nat.succ_ne_self _⟩, fp2, q⟩
    · obtain ⟨its, rv, p', hz⟩ := I1.tuple hq
      obtain ⟨o1, ho1, _⟩ := id p'
      have hlt := Heap.lt_size ho1
      refine call_enumT (show s1.heap.IsTuple a its.toArray from p') fun h' he hit hsz hk => wpAny_pyIter_enum he ?_
      have I2 : Inv X pins σ H1 { s1 with heap := h' } := I1.kept (t' := s1.toks) hk
      exact ⟨s1.heap.objs.size + 1, [s1.heap.objs.size + 1, s1.heap.objs.size], _, _, H1, rfl, I2, turn_enumT a (s1.heap.objs.size + 1) s1.heap.objs.size (Nat.ne_of_lt hlt) (Nat.ne_of_lt (Nat.lt_succ_of_lt hlt)), ⟨⟨.none, he⟩, hit, Nat.succ_ne_self _⟩, fp2, q⟩
/-! ### enumerate told by data -/
def enumL : Nat → List D → List D
  | _, [] => []
  | n, x :: xs => .tup [.int n, x] :: enumL (n + 1) xs
theorem enumL_get {xs : List D} : ∀ {n i : Nat} {d : D}, (enumL n xs)[i]? = some d → ∃ x, xs[i]? = some x ∧ d = .tup [.int ((n + i : Nat) : Int), x] := by
  induction xs with
  | nil => intro n i d h; simp [enumL] at h
  | cons x xs ih =>
    intro n i d h
    cases i with
    | zero => simp [enumL] at h; exact ⟨x, rfl, by rw [← h]; simp⟩
    | succ i =>
      obtain ⟨y, h1, h2⟩ := ih (n := n + 1) (i := i) (d := d) (by simpa [enumL] using h)
      exact ⟨y, by simpa using h1, by rw [h2, show n + 1 + i = n + (i + 1) by omega]⟩
theorem enumL_len (xs : List D) : ∀ n, (enumL n xs).length = xs.length := by
  induction xs with
  | nil => intro n; rfl
  | cons x xs ih => intro n; simp [enumL, ih]
def enumD : D → Option (List D)
  | .tup a => some (enumL 0 a)
  | .lst a => some (enumL 0 a)
  | _ => none
section
variable {K : PySem.W.Frag} {ws : Wa} {B : Addr → Prop} {H : Hp}
theorem jok_enT {a : Addr} {xs : List V} {l : List D} (hb : ∀ a, B a → H a ≠ none) (h : SqT K H a xs) (r : DRs K ws B H xs l) : JOk K ws B (ItEt K a) (enumL 0 l) H := fun i => by
  refine ⟨fun d hd => ?_, fun hi => ⟨xs, h, by rw [enumL_len] at hi; rw [r.length]; exact hi⟩⟩
  obtain ⟨x, h1, rfl⟩ := enumL_get hd
  obtain ⟨v, q1, q2⟩ := r.get h1
  refine ⟨⟨xs, v, h, q1⟩, fun z H' hy => ?_⟩
  obtain ⟨T, x', rfl, hT, rfl, f1⟩ := hy
  have e1 := f1 xs h
  rw [q1] at e1
  cases e1
  rw [Nat.zero_add]
  exact ⟨Grow.new hT, dr_pair hT hb (.int _) q2⟩
theorem jok_enL {a : Addr} {xs : List V} {l : List D} (hb : ∀ a, B a → H a ≠ none) (h : SqL K H a xs) (r : DRs K ws B H xs l) : JOk K ws B (Ite K a) (enumL 0 l) H := fun i => by
  refine ⟨fun d hd => ?_, fun hi => ⟨xs, h, by rw [enumL_len] at hi; rw [r.length]; exact hi⟩⟩
  obtain ⟨x, h1, rfl⟩ := enumL_get hd
  obtain ⟨v, q1, q2⟩ := r.get h1
  refine ⟨⟨xs, v, h, q1⟩, fun z H' hy => ?_⟩
  obtain ⟨T, x', rfl, hT, rfl, f1⟩ := hy
  have e1 := f1 xs h
  rw [q1] at e1
  cases e1
  rw [Nat.zero_add]
  exact ⟨Grow.new hT, dr_pair hT hb (.int _) q2⟩
end
def fEnum (g : M (List D)) : M (List D) := g.bind fun l => match l with
  | [x] => M.opt (enumD x)
  | _ => M.bad
theorem mi_enum {X : Cx} {Wx : WX} {a : Expr} {pos p tpos : Pos} {elts : List Expr} {kk : Nat} {g : An} (hm : X.mg "enumerate" = none) (ha : PAm X Wx [a] g) (hg : Gl X "enumerate" := by rfl) (hs : starEach [a] X.env = [(false, eval a X.env)] := by rfl) :
    PIm X Wx (.Tuple elts kk tpos) (.Call (.Name "enumerate" p) [a] [] pos) (fun sl => fEnum (g sl)) := by
  refine (pi_enumA hg hm ha hs).mimp fun σ H R ⟨ws, B0, sl, w, e, h⟩ => ?_
  refine ⟨ws, B0, sl, w, e, (runAt.bind h).mono fun ws1 w1 ds H1 l1 e1 h1 vs hv => ?_⟩
  match ds, h1, hv with
  | [x], h2, .cons rx .nil =>
    obtain ⟨l, q, h2⟩ := runAt.opt h2
    cases x with
    | tup l =>
      cases q
      cases rx with
      | tup z t1 r1 => exact ⟨_, _, rfl, .inr ⟨t1.sq, runAt.here e1 h2 _ (by rw [enumL_len]; exact z) fun ws' B' H' hw hk hB hd => jok_enT hd (Tp.keep hk hB t1).sq (r1.keep hw hk hB)⟩⟩
    | lst l =>
      cases q
      cases rx with
      | lst z n t r => exact ⟨_, _, rfl, .inl ⟨.inl (.inl t), runAt.here e1 h2 _ (by rw [enumL_len]; exact z) fun ws' B' H' hw hk hB hd => jok_enL hd (.inl (.inl (hk _ _ t n))) (r.keep hw hk hB)⟩⟩
    | _ => cases q
end Pm
namespace Pm
open PySem PySem.Spec PyProof.Rows L2 RZ

/-! ### x in a tuple, a list -/
def inDs (x : D) (l : List D) : Bool := l.any fun z => deq z x
def inD (x y : D) : Option D := match y with
  | .tup l => if okd 40 x = true ∧ l.all (okd 39) = true then some (.bl (inDs x l)) else none
  | .lst l => if okd 40 x = true ∧ l.all (okd 39) = true then some (.bl (inDs x l)) else none
  | _ => none
def ninD (x y : D) : Option D := match y with
  | .tup l => if okd 40 x = true ∧ l.all (okd 39) = true then some (.bl (!inDs x l)) else none
  | .lst l => if okd 40 x = true ∧ l.all (okd 39) = true then some (.bl (!inDs x l)) else none
  | _ => none
def rInT (K : PySem.W.Frag) : R2 := fun x y H Q => ∃ d ds, Dp K H x d ∧ Dp K H y (.tuple ds) ∧ SeqAt.shaped d = true ∧ SeqAt.shaped (.tuple ds) = true ∧ Q (.bl (ds.any fun z => PyData.eqv z d)) H
def rNotInT (K : PySem.W.Frag) : R2 := fun x y H Q => ∃ d ds, Dp K H x d ∧ Dp K H y (.tuple ds) ∧ SeqAt.shaped d = true ∧ SeqAt.shaped (.tuple ds) = true ∧ Q (.bl (!ds.any fun z => PyData.eqv z d)) H
theorem op_inT {X : Cx} (hu : X.A.units + 65 < cLine) : OpR X (compareOp .In) (rInT X.K) := by
  intro pins s σ H x y v u Q I rx ry h
  obtain ⟨d, ds, hd, he, sd, se, q⟩ := h
  obtain ⟨as, r1⟩ := Dp.reads I d x v hd rx
  obtain ⟨bs, r2⟩ := Dp.reads I (.tuple ds) y u he ry
  exact SeqAt.in_tuple_reads r2 r1 (SeqAt.canLay_of_shaped se) (SeqAt.canLay_of_shaped sd) (room_in_shaped sd hu) ⟨.bl _, H, I, rfl, q⟩
theorem op_notInT {X : Cx} (hu : X.A.units + 65 < cLine) : OpR X (compareOp .NotIn) (rNotInT X.K) := by
  intro pins s σ H x y v u Q I rx ry h
  obtain ⟨d, ds, hd, he, sd, se, q⟩ := h
  obtain ⟨as, r1⟩ := Dp.reads I d x v hd rx
  obtain ⟨bs, r2⟩ := Dp.reads I (.tuple ds) y u he ry
  exact SeqAt.notIn_tuple_reads r2 r1 (SeqAt.canLay_of_shaped se) (SeqAt.canLay_of_shaped sd) (room_in_shaped sd hu) ⟨.bl _, H, I, rfl, q⟩
def rInM (K : PySem.W.Frag) : R2 := fun x y H Q => rInD K x y H Q ∨ rInT K x y H Q
def rNotInM (K : PySem.W.Frag) : R2 := fun x y H Q => rNotInD K x y H Q ∨ rNotInT K x y H Q
theorem op_inM {X : Cx} (hu : X.A.units + 65 < cLine) : OpR X (compareOp .In) (rInM X.K) := (op_inD hu).or (op_inT hu)
theorem op_ninM {X : Cx} (hu : X.A.units + 65 < cLine) : OpR X (compareOp .NotIn) (rNotInM X.K) := (op_notInD hu).or (op_notInT hu)
theorem okd_up : ∀ {n : Nat} {x : D}, okd n x = true → okd (n + 1) x = true := by
  intro n
  induction n with
  | zero => intro x h; cases x <;> first | exact h | (simp [okd] at h; done) | rfl
  | succ n ih =>
    intro x h
    cases x with
    | tup l => rw [okd] at h ⊢; exact List.all_eq_true.mpr fun y hy => ih (List.all_eq_true.mp h y hy)
    | lst l => rw [okd] at h ⊢; exact List.all_eq_true.mpr fun y hy => ih (List.all_eq_true.mp h y hy)
    | _ => first | exact h | (simp [okd] at h; done)
theorem any_of {x : D} (hx : okd 40 x = true) : ∀ l : List D, l.all (okd 39) = true → ((toPys l).any fun z => PyData.eqv z (toPy x)) = inDs x l
  | [], _ => rfl
  | y :: l, h => by
    rw [List.all_cons, Bool.and_eq_true] at h
    have hy : okd 40 y = true := okd_up h.1
    rw [toPys, List.any_cons, deq_of 40 y x hy hx, any_of hx l h.2]; rfl
section
variable {K : PySem.W.Frag}
theorem so_in : OpS K (rInM K) inD := by
  intro ws B H x y dx dy d Q hb hx hy ho q
  cases dy <;> first
    | (simp [inD] at ho; done)
    | skip
  · rename_i l
    simp only [inD] at ho
    split at ho
    · rename_i hc
      cases ho
      have hl : okd 40 (.tup l) = true := by rw [okd]; exact hc.2
      refine .inr ⟨_, toPys l, dw_dp hc.1 hx, dw_dp hl hy, shaped_of hc.1 (by decide), shaped_of hl (by decide), ?_⟩
      rw [any_of hc.1 l hc.2]
      exact q _ _ (Grow.refl H) (.bl _)
    · cases ho
  · rename_i l
    simp only [inD] at ho
    split at ho
    · rename_i hc
      cases ho
      have hl : okd 40 (.lst l) = true := by rw [okd]; exact hc.2
      refine .inl ⟨_, toPys l, dw_dp hc.1 hx, dw_dp hl hy, shaped_of hc.1 (by decide), shaped_of hl (by decide), ?_⟩
      rw [any_of hc.1 l hc.2]
      exact q _ _ (Grow.refl H) (.bl _)
    · cases ho
theorem so_nin : OpS K (rNotInM K) ninD := by
  intro ws B H x y dx dy d Q hb hx hy ho q
  cases dy <;> first
    | (simp [ninD] at ho; done)
    | skip
  · rename_i l
    simp only [ninD] at ho
    split at ho
    · rename_i hc
      cases ho
      have hl : okd 40 (.tup l) = true := by rw [okd]; exact hc.2
      refine .inr ⟨_, toPys l, dw_dp hc.1 hx, dw_dp hl hy, shaped_of hc.1 (by decide), shaped_of hl (by decide), ?_⟩
      rw [any_of hc.1 l hc.2]
      exact q _ _ (Grow.refl H) (.bl _)
    · cases ho
  · rename_i l
    simp only [ninD] at ho
    split at ho
    · rename_i hc
      cases ho
      have hl : okd 40 (.lst l) = true := by rw [okd]; exact hc.2
      refine .inl ⟨_, toPys l, dw_dp hc.1 hx, dw_dp hl hy, shaped_of hc.1 (by decide), shaped_of hl (by decide), ?_⟩
      rw [any_of hc.1 l hc.2]
      exact q _ _ (Grow.refl H) (.bl _)
    · cases ho
end
theorem un65 {k : Nat} {A : Around} (h : Room k A) : A.units + 65 < cLine := by have := h.un; omega
theorem ot_in : OpT inD := fun x y d h => by
  cases y <;> first
    | (simp [inD] at h; done)
    | skip
  all_goals
    simp only [inD] at h
    split at h
    · rename_i hc
      exact ⟨rdb_ok hc.1, rfl⟩
    · cases h
theorem ot_nin : OpT ninD := fun x y d h => by
  cases y <;> first
    | (simp [ninD] at h; done)
    | skip
  all_goals
    simp only [ninD] at h
    split at h
    · rename_i hc
      exact ⟨rdb_ok hc.1, rfl⟩
    · cases h
end Pm
namespace Pm
open PySem PySem.Spec PyProof.Rows L2 RZ

/-! ### tuple(range(..)), list(range(..)) -/
section
variable {X : Cx} {e : Expr} {es : List Expr}
def PRgA (X : Cx) (e : Expr) (t : L2.St → Hp → (Int → Int → Nat → Hp → Prop) → Prop) : Prop :=
  ∀ (pins : List (Addr × Obj)) (s : Shared) (σ : L2.St) (H : Hp) (Q : Int → Int → Nat → Hp → Prop), Inv X pins σ H s → t σ H Q →
    wpAny (model X.prog X.w) X.A (eval e X.env) (fun x s' => ∃ r a b c t u v n H', x = .ref r ∧ IsRange s'.heap r a b c t u v ∧ Inv X pins σ H' s' ∧ RgC a b c n ∧ Q a c n H') X.xe s
def tRgA (ta : TA) : L2.St → Hp → (Int → Int → Nat → Hp → Prop) → Prop := fun σ H Q => ta σ H fun vs H1 =>
  (∃ (j : Int) (n : Nat), vs = [.int j] ∧ RgC 0 j 1 n ∧ Q 0 1 n H1) ∨ (∃ (i j : Int) (n : Nat), vs = [.int i, .int j] ∧ RgC i j 1 n ∧ Q i 1 n H1) ∨ (∃ (i j c : Int) (n : Nat), vs = [.int i, .int j, .int c] ∧ RgC i j c n ∧ Q i c n H1)
theorem prga {ta : TA} {p pos : Pos} (hg : Gl X "range") (hm : X.mg "range" = none) (ha : PA X (e :: es) ta)
    (hs : starEach (e :: es) X.env = (false, eval e X.env) :: starEach es X.env := by rfl) (hpl : (backTo pos (starEach es X.env)).any (·.1) = false := by rfl) : PRgA X (.Call (.Name "range" p) (e :: es) [] pos) (tRgA ta) := by
  intro pins s σ H Q I h
  refine Call_ (ld_blt I hg hm boot_range (PyProof.Rows.callWith_type1 (thn (ha.run pos pins s σ H _ I h) fun us s1 ⟨vs, H1, I1, r1, q1⟩ => ?_) hs hpl))
  rcases q1 with ⟨j, n, rfl, rc, q⟩ | ⟨i, j, n, rfl, rc, q⟩ | ⟨i, j, c, n, rfl, rc, q⟩
  · cases r1 with
    | cons r rr =>
      cases rr
      obtain ⟨t, rfl⟩ := r
      exact call_range_1 ⟨_, 0, j, 1, _, _, _, n, H1, rfl, IsRange.new _ _ _ _ _ _ _, I1.kept fun b u e => Heap.get?_push_of_some _ e, rc, q⟩
  · cases r1 with
    | cons r rr =>
      cases rr with
      | cons r' rr =>
        cases rr
        obtain ⟨t, rfl⟩ := r
        obtain ⟨t', rfl⟩ := r'
        exact call_range_2 ⟨_, i, j, 1, _, _, _, n, H1, rfl, IsRange.new _ _ _ _ _ _ _, I1.kept fun b u e => Heap.get?_push_of_some _ e, rc, q⟩
  · cases r1 with
    | cons r rr =>
      cases rr with
      | cons r' rr =>
        cases rr with
        | cons r'' rr =>
          cases rr
          obtain ⟨t, rfl⟩ := r
          obtain ⟨t', rfl⟩ := r'
          obtain ⟨t'', rfl⟩ := r''
          exact call_range_3 rc.1 ⟨_, i, j, c, _, _, _, n, H1, rfl, IsRange.new _ _ _ _ _ _ _, I1.kept (t' := s1.toks) fun b u e => Heap.get?_push_of_some _ e, rc, q⟩ (.inl (PyProof.noPylong_small rc.2.1))
def rgVc (a c : Int) (n : Nat) : List V := (List.range n).map fun (i : Nat) => V.int (a + (i : Nat) * c)
theorem rgVc_length (a c : Int) (n : Nat) : (rgVc a c n).length = n := by unfold rgVc; rw [List.length_map, List.length_range]
theorem vals_rgc {a c : Int} {n : Nat} {acc : Array Value} (h : ItemsOf (fun i v => ∃ t, v = .int (a + i * c) t) acc n) : Vals (rgVc a c n) acc.toList := by
  have e : acc.toList.length = n := by rw [Array.length_toList]; exact h.1
  unfold rgVc
  rw [← e]
  refine vals_of_get acc.toList _ fun j u hj => ?_
  obtain ⟨t, rfl⟩ := h.2 j u (by rw [← hj, Array.getElem?_toList])
  exact ⟨t, rfl⟩
variable {te : L2.St → Hp → (Int → Int → Nat → Hp → Prop) → Prop}
def tLstRgA (te : L2.St → Hp → (Int → Int → Nat → Hp → Prop) → Prop) : TE := fun σ H Q => te σ H fun a c n H1 => n ≤ 2 ^ 24 ∧ ∀ q, H1 q = none → Q (.ref q) (upd H1 q (.lst (rgVc a c n)))
def tTupRgA (te : L2.St → Hp → (Int → Int → Nat → Hp → Prop) → Prop) : TE := fun σ H Q => te σ H fun a c n H1 => n ≤ 2 ^ 24 ∧ ∀ q, H1 q = none → Q (.ref q) (upd H1 q (.tup (rgVc a c n)))
theorem pe_listRgA {p pos : Pos} (hc : X.calm = true) (hg : Gl X "list") (hm : X.mg "list" = none) (he : PRgA X e te) (na : starEach [e] X.env = (false, eval e X.env) :: starEach [] X.env := by rfl) : PE X (.Call (.Name "list" p) [e] [] pos) (tLstRgA te) := by
  refine ⟨fun pins s σ H Q I h => ?_⟩
  refine Call_ (ld_blt I hg hm boot_list (PyProof.Rows.callWith_type1 (args_cons (thn (he pins s σ H _ I h) fun x s1 ⟨r, a, b, c, t, u, v, n, H1, ex, hr, I1, rc, b5, q⟩ => args_nil ?_) na) na))
  subst ex
  refine call_list_range (n := n) (I1.ok.hd hc) hr rc.2.2.1 rc.2.2.2 b5 fun h' tk acc c' hk e' hi => ?_
  refine ⟨.ref s1.heap.objs.size, upd H1 s1.heap.objs.size (.lst (rgVc a c n)), I1.laid hk (Nat.le_refl _) (show ObjOk X.prog X.w _ _ _ (.lst (rgVc a c n)) from ⟨?_, acc.toList, c', vals_rgc hi, ?_⟩), rfl, q _ (I1.hok.fresh (Nat.le_refl _))⟩
  · rw [rgVc_length, sizeLine_eq]; omega
  · rw [Array.toArray_toList]; exact e'
theorem pe_tupRgA {p pos : Pos} (hc : X.calm = true) (hg : Gl X "tuple") (hm : X.mg "tuple" = none) (he : PRgA X e te) (na : starEach [e] X.env = (false, eval e X.env) :: starEach [] X.env := by rfl) : PE X (.Call (.Name "tuple" p) [e] [] pos) (tTupRgA te) := by
  refine ⟨fun pins s σ H Q I h => ?_⟩
  refine Call_ (ld_blt I hg hm boot_tuple (PyProof.Rows.callWith_type1 (args_cons (thn (he pins s σ H _ I h) fun x s1 ⟨r, a, b, c, t, u, v, n, H1, ex, hr, I1, rc, b5, q⟩ => args_nil ?_) na) na))
  subst ex
  refine call_tuple_range (n := n) (I1.ok.hd hc) hr rc.2.2.1 rc.2.2.2 b5 fun h' tk acc hk hi => ?_
  have I2 : Inv X pins σ H1 { s1 with heap := h', toks := tk } := I1.kept hk
  refine ⟨.ref h'.objs.size, upd H1 h'.objs.size (.tup (rgVc a c n)), I2.laid (t' := tk) (fun c o e => Heap.get?_push_of_some _ e) (Nat.le_refl _) (show ObjOk X.prog X.w _ _ _ (.tup (rgVc a c n)) from ⟨?_, acc.toList, vals_rgc hi, ?_⟩), rfl, q _ (I2.hok.fresh (Nat.le_refl _))⟩
  · rw [rgVc_length, sizeLine_eq]; omega
  · rw [Array.toArray_toList]; exact IsTup.new _ _
end
theorem drs_rng {K : PySem.W.Frag} {ws : Wa} {B : Addr → Prop} {H : Hp} (i c : Int) (n : Nat) : DRs K ws B H (rgVc i c n) ((List.range n).map fun (k : Nat) => D.int (i + k * c)) := by
  have := DRs.ints (K := K) (ws := ws) (B := B) (H := H) ((List.range n).map fun (k : Nat) => i + (k : Int) * c)
  rw [List.map_map, List.map_map] at this
  exact this
theorem rng_args {K : PySem.W.Frag} {ws : Wa} {B : Addr → Prop} {H : Hp} {vs : List V} {ds items : List D} (hi : rngF ds = some items) (hv : DRs K ws B H vs ds) : ∃ (i j c : Int) (n : Nat), RgC i j c n ∧ n ≤ sizeLine ∧ items = ((List.range n).map fun (k : Nat) => D.int (i + k * c)) ∧
    ((i = 0 ∧ c = 1 ∧ vs = [.int j]) ∨ (c = 1 ∧ vs = [.int i, .int j]) ∨ vs = [.int i, .int j, .int c]) := by
  have hsz : sizeLine < 2 ^ 62 := by decide
  match ds, hi, hv with
  | [.int j], hi, .cons (.int _) .nil =>
    have hi : rngA j = some items := hi
    unfold rngA at hi
    split at hi
    · rename_i hc
      cases hi
      refine ⟨0, j, 1, j.toNat, ⟨by decide, by decide, small_one (by omega) (by omega) hc.2 (by omega), ?_⟩, hc.1, by simp, .inl ⟨rfl, rfl, rfl⟩⟩
      rw [rangeSize_nat]; simp
    · cases hi
  | [.int i, .int j], hi, .cons (.int _) (.cons (.int _) .nil) =>
    have hi : rngB i j = some items := hi
    unfold rngB at hi
    split at hi
    · rename_i hc
      cases hi
      exact ⟨i, j, 1, (j - i).toNat, ⟨by decide, by decide, small_one hc.2.1 hc.2.2.1 hc.2.2.2.1 hc.2.2.2.2, rangeSize_nat i j⟩, hc.1, by simp, .inr (.inl ⟨rfl, rfl⟩)⟩
    · cases hi
  | [.int i, .int j, .int c], hi, .cons (.int _) (.cons (.int _) (.cons (.int _) .nil)) =>
    have hi : rngC i j c = some items := hi
    unfold rngC at hi
    split at hi
    · rename_i hc
      cases hi
      refine ⟨i, j, c, (Builtin.Range.rangeSize i j c).toNat, ⟨hc.1, hc.2.1, hc.2.2.1, ?_⟩, hc.2.2.2, rfl, .inr (.inr rfl)⟩
      exact rangeSize_toNat i j c
    · cases hi

def fTupR (g : M (List D)) : M D := g.bind fun l => (M.opt (rngF l)).bind fun r => M.pure (.tup r)
theorem m_tupRng {X : Cx} {Wx : WX} {e : Expr} {es : List Expr} {pos pos2 p p2 : Pos} {g : An} (hc : X.calm = true) (ha : PAm X Wx (e :: es) g) (hml : X.mg "tuple" = none) (hm : X.mg "range" = none) (hgl : Gl X "tuple" := by rfl) (hg : Gl X "range" := by rfl)
    (hs : starEach (e :: es) X.env = (false, eval e X.env) :: starEach es X.env := by rfl) (hpl : (backTo pos2 (starEach es X.env)).any (·.1) = false := by rfl)
    (ho : starEach [Expr.Call (.Name "range" p2) (e :: es) [] pos2] X.env = (false, eval (.Call (.Name "range" p2) (e :: es) [] pos2) X.env) :: starEach [] X.env := by rfl) :
    PEm X Wx (.Call (.Name "tuple" p) [.Call (.Name "range" p2) (e :: es) [] pos2] [] pos) (fun sl => fTupR (g sl)) := by
  refine (pe_tupRgA hc hgl hml (prga hg hm ha hs hpl) ho).mimp fun σ H Q ⟨ws, B0, sl, w, e, h⟩ => ?_
  refine ⟨ws, B0, sl, w, e, (runAt.bind h).mono fun ws1 w1 ds H1 l1 e2 h1 vs hv => ?_⟩
  obtain ⟨items, hi, h2⟩ := runAt.opt (runAt.bind h1)
  obtain ⟨i, j, c, n, rc, hz, ei, hk⟩ := rng_args hi hv
  have fin : n ≤ 2 ^ 24 ∧ ∀ q, H1 q = none → Q (.ref q) (upd H1 q (.tup (rgVc i c n))) := by
    refine ⟨by rw [sizeLine_eq] at hz; omega, fun q hq => ?_⟩
    have h3 := h2 ws1 H1 (Le.refl _ _ _) e2
    refine runAt.grow (Grow.new hq) e2 h3 _ (tp_new (fun a z => e2.bad a z) hq (by rw [ei]; simpa using hz) ?_)
    rw [ei]
    exact drs_rng i c n
  rcases hk with ⟨rfl, rfl, rfl⟩ | ⟨rfl, rfl⟩ | rfl
  · exact .inl ⟨j, n, rfl, rc, fin⟩
  · exact .inr (.inl ⟨i, j, n, rfl, rc, fin⟩)
  · exact .inr (.inr ⟨i, j, c, n, rfl, rc, fin⟩)

def fLstR (g : M (List D)) : M D := g.bind fun l => (M.opt (rngF l)).bind fun r => M.pure (.lst r)
theorem m_lstRng {X : Cx} {Wx : WX} {e : Expr} {es : List Expr} {pos pos2 p p2 : Pos} {g : An} (hc : X.calm = true) (ha : PAm X Wx (e :: es) g) (hml : X.mg "list" = none) (hm : X.mg "range" = none) (hgl : Gl X "list" := by rfl) (hg : Gl X "range" := by rfl)
    (hs : starEach (e :: es) X.env = (false, eval e X.env) :: starEach es X.env := by rfl) (hpl : (backTo pos2 (starEach es X.env)).any (·.1) = false := by rfl)
    (ho : starEach [Expr.Call (.Name "range" p2) (e :: es) [] pos2] X.env = (false, eval (.Call (.Name "range" p2) (e :: es) [] pos2) X.env) :: starEach [] X.env := by rfl) :
    PEm X Wx (.Call (.Name "list" p) [.Call (.Name "range" p2) (e :: es) [] pos2] [] pos) (fun sl => fLstR (g sl)) := by
  refine (pe_listRgA hc hgl hml (prga hg hm ha hs hpl) ho).mimp fun σ H Q ⟨ws, B0, sl, w, e, h⟩ => ?_
  refine ⟨ws, B0, sl, w, e, (runAt.bind h).mono fun ws1 w1 ds H1 l1 e2 h1 vs hv => ?_⟩
  obtain ⟨items, hi, h2⟩ := runAt.opt (runAt.bind h1)
  obtain ⟨i, j, c, n, rc, hz, ei, hk⟩ := rng_args hi hv
  have fin : n ≤ 2 ^ 24 ∧ ∀ q, H1 q = none → Q (.ref q) (upd H1 q (.lst (rgVc i c n))) := by
    refine ⟨by rw [sizeLine_eq] at hz; omega, fun q hq => ?_⟩
    have h3 := h2 ws1 H1 (Le.refl _ _ _) e2
    refine runAt.grow (Grow.new hq) e2 h3 _ (ls_new (fun a z => e2.bad a z) hq (by rw [ei]; simpa using hz) ?_)
    rw [ei]
    exact drs_rng i c n
  rcases hk with ⟨rfl, rfl, rfl⟩ | ⟨rfl, rfl⟩ | rfl
  · exact .inl ⟨j, n, rfl, rc, fin⟩
  · exact .inr (.inl ⟨i, j, n, rfl, rc, fin⟩)
  · exact .inr (.inr ⟨i, j, c, n, rfl, rc, fin⟩)
end Pm
namespace Pm
open PySem PySem.Spec PyProof.Rows L2 RZ

/-! ### l.count(x) -/
section
variable {X : Cx}
def rCountD (K : PySem.W.Frag) : V → List V → Hp → VK → Prop := fun x xs H Q => ∃ (a : Addr) (y : V) (d : PyData) (ds : List PyData), x = V.ref a ∧ xs = [y] ∧ Dp K H (V.ref a) (.list ds) ∧ Dp K H y d ∧
  SeqAt.shaped (.list ds) = true ∧ SeqAt.shaped d = true ∧ Q (.int ((ds.countP fun z => PyData.eqv z d : Nat))) H
theorem mt_countD (hu : X.A.units + 65 < cLine) : MtR X "list.count" (rCountD X.K) := by
  intro pins s σ H x xs v us Q I rx rxs h
  obtain ⟨a, y, d, ds, rfl, rfl, hl, hy, sl, sd, q⟩ := h
  cases rx
  cases rxs with
  | cons ry rt =>
    rename_i uy ut
    cases rt
    obtain ⟨bs, r1⟩ := Dp.reads I d y uy hy ry
    have hxs : PyData.canLayAll0 ds = true := SeqAt.canLay_of_shaped sl
    have hroom : X.A.units + 1 + min (PyData.depthAll ds) d.depth < cLine := room_in_shaped sd hu
    cases hl with
    | lst hs ha =>
      obtain ⟨its, rv, ⟨⟨cls, dd, data, sls⟩, n, ho, hc, hdn, hdt⟩, hlen⟩ := I.list hs
      simp only at hc hdt
      subst hc hdt
      obtain ⟨as, h4⟩ := Dp.readsAll I ds _ its ha rv
      have hmap : its.map (SeqAt.readOf s.heap) = ds := SeqAt.readsAll_map ds its as hxs h4
      refine call_meets PySem.F.slot_list_count ⟨_, ho, rfl⟩ PySem.F.entry_list_count (PySem.F.args_list_count_2 _ _)
        (SeqAt.list_countAt a its.toArray n dd sls uy (fun u => PyData.eqv (SeqAt.readOf s.heap u) d)) ⟨ho, SeqAt.items_eqAt (vs := its.toArray) (show ReadsAll s.heap its.toArray.toList ds as from h4) r1 hxs (SeqAt.canLay_of_shaped sd) hroom, ?_⟩
      refine ⟨.int ((ds.countP fun z => PyData.eqv z d : Nat)), H, I.tok _, ⟨s.toks, ?_⟩, q⟩
      have : its.toArray.toList.countP (fun u => PyData.eqv (SeqAt.readOf s.heap u) d) = ds.countP fun z => PyData.eqv z d := by
        rw [← hmap, List.countP_map]; simp; rfl
      rw [this]
end
def cntDs (x : D) (l : List D) : Nat := l.countP fun z => deq z x
def cntL (l : List D) (y : D) : Option D := if okd 40 y = true ∧ l.all (okd 39) = true then some (.int (cntDs y l)) else none
def fCnt (x y : M D) : M D := x.bind fun a => (M.opt (lstD a)).bind fun l => y.bind fun b => M.opt (cntL l b)
theorem cnt_of {x : D} (hx : okd 40 x = true) : ∀ l : List D, l.all (okd 39) = true → ((toPys l).countP fun z => PyData.eqv z (toPy x)) = cntDs x l
  | [], _ => rfl
  | y :: l, h => by
    rw [List.all_cons, Bool.and_eq_true] at h
    have hy : okd 40 y = true := okd_up h.1
    unfold cntDs
    rw [toPys, List.countP_cons, List.countP_cons, deq_of 40 y x hy hx, cnt_of hx l h.2]; rfl
theorem m_count {X : Cx} {Wx : WX} {o e : Expr} {f g : Dn} {apos cpos : Pos} (hu : X.A.units + 65 < cLine) (ho : PRm X Wx o f) (he : PRm X Wx e g)
    (hbase : attributeBase o "count" X.env (eval o X.env) = eval o X.env := by rfl)
    (hfew : ((backTo cpos (starEach [e] X.env)).all (fun x => !x.1) && (backToKw cpos (keywordEach [] X.env)).all (fun x => x.1.isSome)
      && decide ([e].length + ([] : List Keyword).length + (if ([] : List Keyword).isEmpty then 0 else 1) < 30)) = true := by rfl)
    (hline : (apos.endLine == cpos.line) = true := by rfl) (hs : starEach [e] X.env = (false, eval e X.env) :: starEach [] X.env := by rfl) (hplain : (backTo cpos (starEach [] X.env)).any (·.1) = false := by rfl) :
    PEm X Wx (.Call (.Attribute o "count" apos) [e] [] cpos) (fun sl => fCnt (f sl) (g sl)) := by
  refine (pe_bm (T := "list") PySem.F.plainAttrs_list PySem.F.slot_list_count PySem.F.type_list_count (mt_countD hu) ho (pa_cons he pa_nil hs) hbase hfew hline hs hplain).mimp fun σ H Q ⟨ws, B0, sl, w, en, h⟩ => ?_
  refine ⟨ws, B0, sl, w, en, (runAt.bind h).mono fun ws1 w1 a H1 l1 e1 h1 v hv => ?_⟩
  obtain ⟨l, hl, h2⟩ := runAt.opt (runAt.bind h1)
  have h3 := h2 ws1 H1 (Le.refl _ _ _) e1
  cases a <;> first | (cases hl; done) | skip
  cases hl
  have hx := e1.rv hv rfl
  obtain ⟨zx, a, xs, rfl, ha, ra⟩ := hx
  refine ⟨.inl ⟨rfl, xs, .inl (.inl ha)⟩, ws1, B0, sl, w1, e1, (runAt.bind h3).mono fun ws2 w2 y H2 l2 e2 h4 u hu2 => ?_⟩
  obtain ⟨d, q3, h5⟩ := runAt.opt h4
  unfold cntL at q3
  split at q3
  · rename_i hc
    cases q3
    have hll : okd 40 (.lst l) = true := by rw [okd]; exact hc.2
    refine ⟨a, u, toPy y, toPys l, rfl, rfl, dw_dp hll (e2.rv (RV.le l2 hv) rfl), dw_dp hc.1 (e2.rv hu2 (rdb_ok hc.1)), shaped_of hll (by decide), shaped_of hc.1 (by decide), ?_⟩
    rw [cnt_of hc.1 l hc.2]
    exact runAt.grow (Grow.refl H2) e2 h5 _ (.int _)
  · cases q3
end Pm
namespace Pm
open PySem PySem.Spec PyProof.Rows L2 RZ

/-! ### dicts with plain keys -/
def valD (es : List (Key × D)) (k : Key) : Option D := (es.find? fun kv => decide (kv.1 = k)).map (·.2)
def putD (es : List (Key × D)) (k : Key) (d : D) : List (Key × D) := if (es.any fun kv => decide (kv.1 = k)) then es.map (fun kv => if kv.1 = k then (kv.1, d) else kv) else es ++ [(k, d)]
def mergeD (es more : List (Key × D)) : List (Key × D) := more.foldl (fun acc kv => putD acc kv.1 kv.2) es
def keyD : D → Option Key
  | .str x => some (.inr x)
  | .int i => some (.inl i)
  | _ => none
def dgD (x y : D) : Option D := match x with
  | .dk es => (keyD y).bind fun k => valD es k
  | _ => none
section
variable {K : PySem.W.Frag} {ws : Wa} {B : Addr → Prop} {H : Hp} {v : V} {d : D} {k : Key}
def KR (K : PySem.W.Frag) (ws : Wa) (B : Addr → Prop) (H : Hp) (kvs : List (Key × V)) (es : List (Key × D)) : Prop := kvs.map (·.1) = es.map (·.1) ∧ DRs K ws B H (kvs.map (·.2)) (es.map (·.2))
theorem KR.cons_of {p : Key × V} {kvs : List (Key × V)} {q : Key × D} {es : List (Key × D)} (h : KR K ws B H (p :: kvs) (q :: es)) : p.1 = q.1 ∧ DR K ws B H p.2 q.2 ∧ KR K ws B H kvs es := by
  obtain ⟨h1, h2⟩ := h
  simp only [List.map_cons, List.cons.injEq] at h1 h2
  cases h2 with | cons a b => exact ⟨h1.1, a, h1.2, b⟩
theorem KR.cons {p : Key × V} {kvs : List (Key × V)} {q : Key × D} {es : List (Key × D)} (h1 : p.1 = q.1) (h2 : DR K ws B H p.2 q.2) (h : KR K ws B H kvs es) : KR K ws B H (p :: kvs) (q :: es) :=
  ⟨by simp only [List.map_cons, h1, h.1], .cons h2 h.2⟩
theorem KR.val : ∀ {kvs : List (Key × V)} {es : List (Key × D)}, KR K ws B H kvs es → valD es k = some d → ∃ v, valV kvs k = some v ∧ DR K ws B H v d
  | [], [], _, e => by cases e
  | [], _ :: _, h, _ => by have := h.1; simp at this
  | _ :: _, [], h, _ => by have := h.1; simp at this
  | p :: kvs, q :: es, h, e => by
    obtain ⟨h1, h2, h3⟩ := h.cons_of
    unfold valD at e
    rw [List.find?_cons] at e
    by_cases z : q.1 = k
    · rw [decide_eq_true z] at e
      cases e
      exact ⟨p.2, valV_pos (h1.trans z), h2⟩
    · rw [decide_eq_false z] at e
      rw [valV_neg (by rw [h1]; exact z)]
      exact KR.val h3 e
theorem KR.len {kvs : List (Key × V)} {es : List (Key × D)} (h : KR K ws B H kvs es) : kvs.length = es.length := by have := congrArg List.length h.1; simpa using this
theorem KR.any {kvs : List (Key × V)} {es : List (Key × D)} (h : KR K ws B H kvs es) : (kvs.any fun kv => decide (kv.1 = k)) = es.any fun kv => decide (kv.1 = k) := by
  have e : ∀ {β : Type} (l : List (Key × β)), (l.any fun kv => decide (kv.1 = k)) = (l.map (·.1)).any fun z => decide (z = k) := fun l => by rw [List.any_map]; rfl
  rw [e, e, h.1]
theorem KR.rep : ∀ {kvs : List (Key × V)} {es : List (Key × D)}, KR K ws B H kvs es → DR K ws B H v d → KR K ws B H (kvs.map fun kv => if kv.1 = k then (kv.1, v) else kv) (es.map fun kv => if kv.1 = k then (kv.1, d) else kv)
  | [], [], _, _ => ⟨rfl, .nil⟩
  | [], _ :: _, h, _ => by have := h.1; simp at this
  | _ :: _, [], h, _ => by have := h.1; simp at this
  | p :: kvs, q :: es, h, hd => by
    obtain ⟨h1, h2, h3⟩ := h.cons_of
    rw [List.map_cons, List.map_cons]
    refine .cons ?_ ?_ (KR.rep h3 hd)
    · rw [h1]; split
      · rfl
      · exact h1
    · rw [h1]; split
      · exact hd
      · exact h2
theorem KR.put {kvs : List (Key × V)} {es : List (Key × D)} (h : KR K ws B H kvs es) (hd : DR K ws B H v d) : KR K ws B H (putK kvs k v) (putD es k d) := by
  unfold putK putD
  rw [h.any]
  split
  · exact h.rep hd
  · refine ⟨by simp [h.1], ?_⟩
    rw [List.map_append, List.map_append]
    exact h.2.append (.one hd)
theorem KR.merge : ∀ {more : List (Key × V)} {ms : List (Key × D)} {kvs : List (Key × V)} {es : List (Key × D)}, KR K ws B H more ms → KR K ws B H kvs es → KR K ws B H (mergeK kvs more) (mergeD es ms)
  | [], [], _, _, _, h => h
  | [], _ :: _, _, _, h, _ => by have := h.1; simp at this
  | _ :: _, [], _, _, h, _ => by have := h.1; simp at this
  | p :: more, q :: ms, kvs, es, h, h' => by
    obtain ⟨h1, h2, h3⟩ := h.cons_of
    have : KR K ws B H (putK kvs p.1 p.2) (putD es q.1 q.2) := by rw [h1]; exact h'.put h2
    exact KR.merge (more := more) (ms := ms) h3 this
theorem key_of' {y : D} {u : V} (h : keyD y = some k) (r : DW K ws B H u y) : u = kV k := by
  cases y <;> cases h
  · exact r
  · exact r
end

/-! ### an object that is no more wanted -/
def del (H : Hp) (p : Addr) : Hp := fun a => if a = p then none else H a
theorem del_ne {H : Hp} {p a : Addr} (h : a ≠ p) : del H p a = H a := if_neg h
theorem del_upd {H : Hp} {p : Addr} {o : HO} : upd (del H p) p o = upd H p o := by
  funext a
  by_cases z : a = p
  · subst z; rw [upd_same, upd_same]
  · rw [upd_ne z, upd_ne z, del_ne z]
section
variable {K : PySem.W.Frag} {ws : Wa} {B0 B' : Addr → Prop} {sl : Ls} {w : W} {σ : L2.St} {H : Hp} {p : Addr}
theorem Env.drop (e : Env K ws B' sl w σ H) (hB : ∀ a, B0 a → B' a) (hp : B' p) (hn : ¬ B0 p) (hw : ¬ ws.has p) (hx : BxO (H p)) : Env K ws B0 sl w σ (del H p) := by
  have hk : ∀ a o, H a = some o → ¬ Bad ws B' sl σ a → del H p a = some o := fun a o h n => by rw [del_ne (fun z => n (.inr (.inl (by rw [z]; exact hp))))]; exact h
  have hb : ∀ a, Bad ws B0 sl σ a → Bad ws B' sl σ a ∨ H a = none := fun a z => .inl (z.imp id fun q => q.imp (hB a) id)
  have hne : ∀ {i : Nat} {d : D} {a : Addr}, sl[i]? = some (.ow d) → σ[i]? = some (some (.ref a)) → a ≠ p := fun {i d a} h1 h2 z => by
    obtain ⟨b, q1, _, _, q4⟩ := e.ow i d h1
    rw [h2] at q1
    cases q1
    exact q4 (by rw [z]; exact hp)
  refine ⟨e.len, ?_, fun a h => ?_, fun a h => ?_, fun i d h => ?_, fun i d h => ?_, e.uq⟩
  · refine ⟨?_, e.wr.2.keep (fun a o h z => by rw [del_ne (fun q => hw (by rw [← q]; exact z))]; exact h) (fun a φ h => by rw [del_ne (fun q => hx.nx φ (by rw [← q]; exact h))]; exact h), e.wr.3.keep (fun a xs z => ?_) fun a o z l => by rw [del_ne (fun q => hw (by rw [← q]; exact .inr (.inr l)))]; exact z⟩
    case refine_2 =>
      have n : a ≠ p := fun q => by subst q; exact hx.nt z
      rcases z with z | ⟨u, z⟩
      · exact .inl (by rw [del_ne n]; exact z)
      · exact .inr ⟨u, by rw [del_ne n]; exact z⟩
    have q := e.wr.1
    unfold TW at q ⊢
    split
    · trivial
    · rename_i l t e1 e2
      rw [e1, e2] at q
      rw [del_ne (fun z => hw (.inl (by rw [← z]; exact e2)))]
      exact q
    · rename_i h1 h2
      split at q
      · rename_i e1 e2; exact h1 e1 e2
      · rename_i e1 e2; exact h2 _ _ e1 e2
      · exact q
  · rw [del_ne (fun z => hn (by rw [← z]; exact h))]; exact e.bx a (hB a h)
  · rw [del_ne (fun z => hn (by rw [← z]; exact h))]; exact e.dom a (hB a h)
  · obtain ⟨v, q1, q2⟩ := e.va i d h
    exact ⟨v, q1, q2.keep ws.le_refl hk hb⟩
  · obtain ⟨a, q1, q2, q3, q4⟩ := e.ow i d h
    refine ⟨a, q1, ?_, q3, fun z => q4 (hB a z)⟩
    have hne' := hne h q1
    cases d <;> first
      | exact q2.elim
      | (obtain ⟨vs, r1, r2, r3⟩ := q2; exact ⟨vs, by rw [del_ne hne']; exact r1, r2, r3.keep ws.le_refl hk hb⟩)
end

/-! ### {k: e, ..} -/
def tP (K : PySem.W.Frag) (mg : Str → Option Value) (Wx : WX) (ks : List Str) (g : An) : L2.St → Hp → (List (V × V) → Hp → Prop) → Prop := fun σ H Q => ∃ ws B0 sl w, Env K ws B0 sl w σ H ∧ runAt K mg Wx ws B0 sl σ H (g sl w) fun ws' _ ds H' => ds.length = ks.length ∧ ∀ vs, DRs K ws' (Bad ws' B0 sl σ) H' vs ds → Q ((ks.map V.str).zip vs) H'
structure PPm (X : Cx) (Wx : WX) (pos : Pos) (keys : List (Option Expr)) (values : List Expr) (ks : List Str) (g : An) : Prop where
  get : ∃ trs, PPs X pos keys values trs ∧ ∀ σ H Q, tP X.K X.mg Wx ks g σ H Q → tPairs trs σ H Q
section
variable {X : Cx} {Wx : WX} {pos : Pos} {keys : List (Option Expr)} {values : List Expr} {ks : List Str} {g : An}
theorem mp_nil : PPm X Wx pos [] [] [] (fun _ => fNil) := ⟨[], pps_nil, fun σ H Q ⟨ws, B0, sl, w, e, h⟩ => (runAt.here e h).2 [] .nil⟩
theorem mp_cons {x : Str} {j : Nat} {kp : Pos} {e : Expr} {f : Dn} (he : PEm X Wx e f) (hr : PPm X Wx pos keys values ks g) : PPm X Wx pos (some (.Constant (.str x) j kp) :: keys) (e :: values) (x :: ks) (fun sl => fCons (f sl) (g sl)) := by
  obtain ⟨trs, h1, h2⟩ := hr.get
  refine ⟨_, pps_cons pe_str he h1, fun σ H Q ⟨ws, B0, sl, w, e, h⟩ => ?_⟩
  show tE X.K X.mg Wx f σ H _
  refine ⟨ws, B0, sl, w, e, (runAt.bind h).mono fun ws1 w1 d H1 l1 e1 k1 v hv => h2 _ _ _ ⟨ws1, B0, sl, w1, e1, (runAt.bind k1).mono fun ws2 w2 ds H2 l2 e2 k2 => ?_⟩⟩
  have k3 := runAt.here e2 k2
  refine ⟨by have := k3.1; simpa using this, fun vs hvs => k3.2 (v :: vs) (.cons (hv.le l2) hvs)⟩
def mkD (ks : List Str) (ds : List D) : D := .dk (mergeD [] ((ks.map Sum.inr).zip ds))
def fDk (ks : List Str) (g : M (List D)) : M D := g.bind fun ds => if ds.length = ks.length then M.pure (mkD ks ds) else M.bad
theorem zip_kv : ∀ (ks : List Str) (vs : List V), (ks.map V.str).zip vs = ((ks.map (Sum.inr : Str → Key)).zip vs).map fun kv => (kV kv.1, kv.2)
  | [], _ => rfl
  | _ :: _, [] => rfl
  | k :: ks, v :: vs => by simp only [List.map_cons, List.zip_cons_cons]; rw [zip_kv ks vs]; rfl
theorem kr_zip {K : PySem.W.Frag} {ws : Wa} {B : Addr → Prop} {H : Hp} : ∀ (ks : List Str) {vs : List V} {ds : List D}, DRs K ws B H vs ds → KR K ws B H ((ks.map (Sum.inr : Str → Key)).zip vs) ((ks.map (Sum.inr : Str → Key)).zip ds)
  | [], _, _, _ => ⟨rfl, .nil⟩
  | k :: ks, _, _, .nil => ⟨rfl, .nil⟩
  | k :: ks, _, _, .cons h r => .cons rfl h (kr_zip ks r)
theorem mf_disp (h : PPm X Wx pos keys values ks g) (hall : keys.all (·.isSome) = true := by rfl) (hl : keys.length = values.length := by rfl) (h0 : keys ≠ [] := by simp) (h15 : keys.length ≤ 15 := by decide) (hk : ks.length = keys.length := by rfl) :
    PFm X Wx (.Dict keys values pos) (fun sl => fDk ks (g sl)) := by
  obtain ⟨trs, h1, h2⟩ := h.get
  refine (pe_disp h1 hall hl h0 h15).mimp fun σ H Q ⟨ws, B0, sl, w, e, h⟩ p hp => h2 _ _ _ ?_
  have gr := Grow.new (o := .dK []) hp
  have hB : ∀ a, (B0 a ∨ a = p) → B0 a ∨ (upd H p (.dK []) a ≠ none ∧ H a = none) := fun a z => z.imp id fun q => by subst q; exact ⟨sm upd_same, hp⟩
  have e2 : Env X.K ws (fun a => B0 a ∨ a = p) sl w σ (upd H p (.dK [])) := e.more hB (fun a z => z.imp id fun q => by rw [q, upd_same]; trivial) gr
  have lg : Le ws (Own sl σ) H ws (Own sl σ) (upd H p (.dK [])) := gr.le _ _
  refine ⟨ws, (fun a => B0 a ∨ a = p), sl, w, e2, ?_⟩
  have h := runAt.bind h
  have nW : ¬ ws.has p := fun z => e.wd p z hp
  have nO : ¬ Own sl σ p := fun z => e.fresh hp (.inr (.inr z))
  have nB : ¬ B0 p := fun z => e.dom p z hp
  have back : ∀ {ws' : Wa} {w' : W} {H' : Hp}, Le ws (Own sl σ) (upd H p (.dK [])) ws' (Own sl σ) H' → Env X.K ws' (fun a => B0 a ∨ a = p) sl w' σ H' → ¬ ws'.has p ∧ H' p = some (.dK []) ∧ Env X.K ws' B0 sl w' σ (del H' p) ∧ Le ws (Own sl σ) H ws' (Own sl σ) (del H' p) := fun {ws' w' H'} l e' => by
    have nw : ¬ ws'.has p := fun z => by
      rcases l.new p z with q | q
      · exact nW q
      · rw [upd_same] at q; cases q
    have l2 := lg.trans l
    refine ⟨nw, l.keep p _ upd_same nW nO, e'.drop (fun a z => .inl z) (.inr rfl) nB nw (by rw [l.keep p _ upd_same nW nO]; trivial), l2.wle, l2.new, l2.own, fun a o q n1 n2 => ?_, fun a q => ?_⟩
    · rw [del_ne (fun z => by rw [z, hp] at q; cases q)]; exact l2.keep a o q n1 n2
    · by_cases z : a = p
      · rw [z]; exact hp
      · rw [del_ne z] at q; exact l2.ex a q
  cases qg : g sl w with
  | bad => rw [qg] at h; exact h
  | ex c w1 =>
    rw [qg] at h
    exact fun ws' H' C hC l e' => h ws' H' C hC (lg.trans l) (e'.fewer fun a z => .inl z)
  | ok ds w1 =>
    rw [qg] at h
    intro ws' H' l e'
    obtain ⟨nw, hp', e3, l3⟩ := back l e'
    have h' : runAt X.K X.mg Wx ws' B0 sl σ (del H' p) ((if ds.length = ks.length then M.pure (mkD ks ds) else M.bad) w1) _ := h ws' (del H' p) l3 e3
    by_cases hd : ds.length = ks.length
    · refine ⟨hd, fun vs hvs => ?_⟩
      rw [if_pos hd] at h'
      have h'' := runAt.here e3 h'
      have hv : DRs X.K ws' (Bad ws' B0 sl σ) (del H' p) vs ds := hvs.keep ws'.le_refl (fun a o q n => by rw [del_ne (fun z => n (.inr (.inl (.inr z))))]; exact q) fun a z => .inl (z.imp id fun q => q.imp .inl id)
      have kr := KR.merge (kvs := []) (es := []) (kr_zip ks hv) ⟨rfl, .nil⟩
      refine ⟨hp', _, zip_kv ks vs, ?_, ?_⟩
      · rw [List.length_zip]; simp; omega
      · rw [← del_upd]
        exact h'' p _ (if_pos rfl) ⟨_, rfl, kr.1, kr.2⟩
    · rw [if_neg hd] at h'
      exact h'.elim
theorem m_ofF {e : Expr} {f : Dn} (h : PFm X Wx e f) : PEm X Wx e f := by
  refine h.mimp fun σ H Q ⟨ws, B0, sl, w, e, h⟩ => ⟨ws, B0, sl, w, e, ?_⟩
  cases q : f sl w with
  | bad => rw [q] at h; exact h
  | ex c w1 => rw [q] at h; exact h
  | ok d w1 =>
    rw [q] at h
    intro ws1 H1 l1 e1 p o hp ho
    have g := Grow.new (o := o) hp
    have nB : ¬ Bad ws1 B0 sl σ p := e1.fresh hp
    refine h ws1 (upd H1 p o) (l1.trans (g.le _ _)) (e1.grow g) (.ref p) ?_
    cases d <;> first | exact ho.elim | skip
    · obtain ⟨vs, rfl, r2, r3⟩ := ho; exact .lst r2 nB upd_same (r3.grow g)
    · obtain ⟨vs, rfl, r2, r3⟩ := ho; exact .dk nB upd_same r2 (r3.grow g)
    · obtain ⟨vs, rfl, r2, r3⟩ := ho; exact .dt nB upd_same r2 (r3.grow g)

/-! ### d[k] -/
theorem m_dget {o i : Expr} {f gi : Dn} (hu : X.A.units + 64 < cLine) (ho : PRm X Wx o f) (hi : PRm X Wx i gi) (hs : NoSl i := by exact fun _ _ => rfl) : PEm X Wx (.Subscript o i pos) (fun sl => fBin dgD (f sl) (gi sl)) := by
  refine (pe_dget (by omega) ho hi hs).mimp fun σ H Q ⟨ws, B0, sl, w, e, h⟩ => ?_
  refine ⟨ws, B0, sl, w, e, (runAt.bind h).mono fun ws1 w1 x H1 l1 e1 h1 v hv => ?_⟩
  refine ⟨ws1, B0, sl, w1, e1, (runAt.bind h1).mono fun ws2 w2 y H2 l2 e2 h2 u hu => ?_⟩
  obtain ⟨d, q3, h3⟩ := runAt.opt h2
  unfold dgD at q3
  cases x <;> first | (cases q3; done) | skip
  rename_i es
  cases qk : keyD y with
  | none => rw [qk] at q3; cases q3
  | some k =>
    rw [qk] at q3
    have q3 : valD es k = some d := q3
    obtain ⟨a, kvs, rfl, r1, r2, r3⟩ := e2.rv (RV.le l2 hv) rfl
    have hy : rdb y = true := by cases y <;> first | rfl | cases qk
    have := key_of' qk (e2.rv hu hy)
    subst this
    obtain ⟨v', z1, z2⟩ := KR.val (kvs := kvs) ⟨r2, r3⟩ q3
    exact ⟨a, v', rfl, by rw [← z1]; exact .k r1, runAt.here e2 h3 v' z2⟩
end

/-! ### d[k] = e, d.update(e) -/
def dkD : D → Option (List (Key × D))
  | .dk l => some l
  | _ => none
def dputD (l : List (Key × D)) (k v : D) : Option D := (keyD k).bind fun j => if l.length < sizeLine then some (.dk (putD l j v)) else none
def fPutK (o : D) (k : M D) (v : D) : M D := (M.opt (dkD o)).bind fun l => k.bind fun j => M.opt (dputD l j v)
def dupdD (l : List (Key × D)) (x : D) : Option D := match x with
  | .dk m => if l.length + m.length ≤ sizeLine then some (.dk (mergeD l m)) else none
  | _ => none
def fUpdK (o : D) (x : M D) : M D := (M.opt (dkD o)).bind fun l => x.bind fun a => M.opt (dupdD l a)
section
variable {X : Cx} {Wx : WX} {o e : Expr} {pos np apos cpos : Pos} {x : Str} {i : Nat} {f : Dn}
theorem ms_dput {j : Expr} {tpos : Pos} {g h : Dn} (i : Nat) (hu : X.A.units + 64 < cLine) (hi : PEm X Wx j g) (he : PEm X Wx e h) (hN : X.N[i]? = some x := by rfl) (hv : Vis X.env.scope x := by first | exact Or.inl rfl | exact Or.inr (Or.inl rfl) | exact Or.inr (Or.inr rfl)) (hd : (x == ("__debug__" : Str)) = false := by decide)
    (hcd : (x == ("__classdict__" : Str)) = false := by decide)
    (ha : ∀ v, assign (.Subscript (.Name x np) j tpos) X.env v = (do
      let ov ← holding [v] (eval (.Name x np) X.env)
      let iv ← holding [v, ov] (eval j X.env)
      standAt tpos
      holding [v, ov, iv] (setItem ov iv v)
      release [v, ov, iv] []) := by intro _; rfl)
    (hs : swapsWithSole [.Subscript (.Name x np) j tpos] e pos.line X.env = pure false := by rfl) (hw : swappedStores [.Subscript (.Name x np) j tpos] e X.env = pure none := by rfl)
    (h1 : (assignEach [.Subscript (.Name x np) j tpos] X.env).map (·.2) = [assign (.Subscript (.Name x np) j tpos) X.env] := by rfl) :
    PSm X Wx (.Assign [.Subscript (.Name x np) j tpos] e pos) (fun nx _ _ sl => (h sl).bind fun v => nOwK i sl fun o => (fPutK o (g sl) v).bind fun o' => nx (sl.set i (.ow o'))) := by
  refine (ps_asg he (pg_sub (pe_var hN hv hd hcd) hi (set_dict (by omega)) ha) hs hw h1).mimp fun D0 σ H ⟨ws, B0, sl, w, nx, bk, ct, e, q⟩ => ?_
  refine ⟨ws, B0, sl, w, e, (Ans.bind q).mono fun ws1 w1 v H1 l1 e1 q1 u hu => ?_⟩
  obtain ⟨d, hd, q2⟩ := nOwK_of q1
  unfold fPutK at q2
  rw [bind_assoc] at q2
  obtain ⟨l, hl, q3⟩ := Ans.opt q2
  rw [bind_assoc] at q3
  clear q1 q2
  cases d <;> first | (cases hl; done) | skip
  cases hl
  obtain ⟨a, p1, _⟩ := e1.ow i _ hd
  refine ⟨_, p1, ws1, B0, sl, w1, e1, (Ans.bind q3).mono fun ws2 w2 k H2 l2 e2 q2 z hz => ?_⟩
  obtain ⟨o', ho, q2⟩ := Ans.opt q2
  obtain ⟨a', r1, ⟨us, r2, r3, r4⟩, r5⟩ := e2.ow i _ hd
  rw [p1] at r1
  cases r1
  unfold dputD at ho
  cases qk : keyD k with
  | none => rw [qk] at ho; cases ho
  | some kk =>
    rw [qk] at ho
    have ho : (if l.length < sizeLine then some (D.dk (putD l kk v)) else none) = some o' := ho
    split at ho
    · rename_i hz2
      cases ho
      have hky : rdb k = true := by cases k <;> first | rfl | cases qk
      have := key_of' qk (e2.rv (.inr hz) hky)
      subst this
      have kr : KR X.K ws2 (Bad ws2 B0 sl σ) H2 us l := ⟨r3, r4⟩
      have hll := kr.len
      obtain ⟨l3, e3⟩ := e2.mutOwn hd p1 (o := .dK (putK us kk u)) (d' := .dk (putD l kk v)) ⟨_, rfl, (kr.put (hu.le l2)).1, (kr.put (hu.le l2)).2⟩
      exact ⟨_, _, rfl, .k r2 (by omega), q2.nx _ _ _ _ _ l3 e3 rfl⟩
    · cases ho
def rDUpd : V → List V → Hp → VK → Prop := fun x vs H Q => ∃ (a b : Addr) (kvs more : List (Key × V)), x = .ref a ∧ vs = [.ref b] ∧ a ≠ b ∧ H a = some (.dK kvs) ∧ H b = some (.dK more) ∧ kvs.length + more.length ≤ sizeLine ∧ Q .non (upd H a (.dK (mergeK kvs more)))
theorem mt_dupd : MtR X "dict.update" rDUpd := by
  intro pins s σ H x vs v us Q I rx rv h
  obtain ⟨a, b, kvs, more, ex, ev, ne, ea, eb, hz, q⟩ := h
  subst ex
  subst ev
  obtain rfl : v = Value.ref a := rx
  cases rv with
  | cons ry rt =>
    cases rt
    rename_i uy
    obtain rfl : uy = Value.ref b := ry
    obtain ⟨z, hd, ps, rel, dd⟩ := dk_of I.hok ea
    obtain ⟨z2, hd2, ps2, rel2, dd2⟩ := dk_of I.hok eb
    refine call_meetsIn PySem.F.slot_dict_update dd.typeIs PySem.F.entry_dict_update (PySem.F.args_dict_update_2 _ _) (meets_dict_update (mixKind X.prog X.w) a b ne hd2) ⟨ps, ps2, dd, dd2, by rw [← rel.length, ← rel2.length]; exact hz, fun h' dd' _ hs => ?_⟩
    have he : ∃ q, h'.get? a = some q := let ⟨q, _, _, hq, _⟩ := dd'; ⟨q, hq⟩
    exact ⟨.non, _, d_write (t' := s.toks) I (by rw [ea]; exact True.intro) hs he (dk_new (Nat.le_trans (length_mergeK _ _) hz) hd (rel2.merge rel) dd'), rfl, q⟩
theorem ms_dupd (i : Nat) (he : PEm X Wx e f) (hN : X.N[i]? = some x := by rfl) (hv : Vis X.env.scope x := by first | exact Or.inl rfl | exact Or.inr (Or.inl rfl) | exact Or.inr (Or.inr rfl)) (hd : (x == ("__debug__" : Str)) = false := by decide)
    (hcd : (x == ("__classdict__" : Str)) = false := by decide) (hbase : attributeBase (.Name x np) "update" X.env (eval (.Name x np) X.env) = eval (.Name x np) X.env := by rfl)
    (hfew : ((backTo cpos (starEach (e :: []) X.env)).all (fun x => !x.1) && (backToKw cpos (keywordEach [] X.env)).all (fun x => x.1.isSome)
      && decide ((e :: ([] : List Expr)).length + ([] : List Keyword).length + (if ([] : List Keyword).isEmpty then 0 else 1) < 30)) = true := by rfl)
    (hline : (apos.endLine == cpos.line) = true := by rfl) (hs : starEach (e :: []) X.env = (false, eval e X.env) :: starEach [] X.env := by rfl) (hplain : (backTo cpos (starEach [] X.env)).any (·.1) = false := by rfl)
    (hsw : swapsWith (.Call (.Attribute (.Name x np) "update" apos) [e] [] cpos) none pos.line X.env = pure false := by rfl) :
    PSm X Wx (.Expr (.Call (.Attribute (.Name x np) "update" apos) [e] [] cpos) pos) (fun nx _ _ sl => nOwK i sl fun o => (fUpdK o (f sl)).bind fun o' => nx (sl.set i (.ow o'))) := by
  refine (ps_expr (pe_bm PySem.F.plainAttrs_dict PySem.F.slot_dict_update PySem.F.type_dict_update mt_dupd (pe_var hN hv hd hcd) (pa_cons he pa_nil hs) hbase hfew hline hs hplain) hsw).mimp fun D0 σ H ⟨ws, B0, sl, w, nx, bk, ct, e, h⟩ => ?_
  obtain ⟨d, hd, h2⟩ := nOwK_of h
  unfold fUpdK at h2
  rw [bind_assoc] at h2
  obtain ⟨l, hl, h3⟩ := Ans.opt h2
  rw [bind_assoc] at h3
  clear h h2
  cases d <;> first | (cases hl; done) | skip
  cases hl
  obtain ⟨a, q1, ⟨vs, q2, q3, q4⟩, q5⟩ := e.ow i _ hd
  refine ⟨_, q1, .inr (.inr (.inl ⟨rfl, .inl ⟨vs, q2⟩⟩)), ws, B0, sl, w, e, (Ans.bind h3).mono fun ws1 w1 b H1 l1 e1 h1 v hv => ?_⟩
  obtain ⟨o', ho, h1⟩ := Ans.opt h1
  obtain ⟨a', p1, ⟨us, p2, p3, p4⟩, p5⟩ := e1.ow i _ hd
  rw [q1] at p1
  cases p1
  unfold dupdD at ho
  split at ho
  · rename_i m
    split at ho
    · rename_i hz
      cases ho
      cases hv with
      | @dk b kvs _ nb hb k1 k2 =>
        have kr : KR X.K ws1 (Bad ws1 B0 sl σ) H1 us l := ⟨p3, p4⟩
        have kr2 : KR X.K ws1 (Bad ws1 B0 sl σ) H1 kvs m := ⟨k1, k2⟩
        have hll := kr.len
        have hll2 := kr2.len
        have kr3 := kr2.merge kr
        obtain ⟨l3, e3⟩ := e1.mutOwn hd q1 (o := .dK (mergeK us kvs)) (d' := .dk (mergeD l m)) ⟨_, rfl, kr3.1, kr3.2⟩
        exact ⟨a, b, us, kvs, rfl, rfl, fun z => nb (.inr (.inr ⟨i, _, hd, by rw [← z]; exact q1⟩)), p2, hb, by omega, h1.nx _ _ _ _ _ l3 e3 rfl⟩
    · cases ho
  · cases ho
end

/-! ### f() -/
section
variable {X : Cx} {Wx : WX} {pos p : Pos} {x : Str}
theorem m_cal0 {k : Nat} {m : Mf} (C : Cal X.prog X.w X.K X.mg X.base k x [] m) (hr : Room k X.A) (tk : Takes X Wx) (hg : Gl X x := by rfl) (hdb : (x == ("__debug__" : Str)) = false := by decide) :
    PEm X Wx (.Call (.Name x p) [] [] pos) (fun sl => fCall m fNil) := by
  obtain ⟨f, fd, h1, h2, h3, h4⟩ := C
  have hp : PE X (.Call (.Name x p) [] [] pos) (tCallS (spF X.K X.mg 0 m) _ tNil) := ⟨fun pins s σ H Q I h => wpAny_Call_Name_kw (ld_glob I hg h1 (PySem.W.callWith_K0 I.kIn h2 (run_fnS (us := []) h4 hr h3 (passAt tk σ) I .nil h)) hdb)⟩
  refine hp.mimp fun σ H Q h => ?_
  have q := fCall_go (g := fun _ => fNil) (n := 0) cnt_nil σ H Q h
  obtain ⟨ws, B0, sl, w, e, q⟩ := q
  exact runAt.here e q [] .nil
end
end Pm
namespace Pm
open PySem PySem.Spec PyProof.Rows L2 RZ

/-! ### t[::-1] -/
section
variable {prog : Program} {w : World} {A : Around} {E : Value → Shared → Prop} {s : Shared}
theorem sliceApplied_rev {sl : Addr} {vs : Value} {n : Nat} {Q : Int × Int × Nat → Shared → Prop} (hs : s.heap.IsSliceOf sl .none .none vs) (ps : IsPart vs (some (-1)))
    (h : Q ((n : Int) - 1, -1, n) s) : wpAny (model prog w) A (Builtin.Slice.sliceApplied (.ref sl) (pure (n : Int))) Q E s := by
  obtain ⟨os, hos, hcs, hds⟩ := id hs
  unfold Builtin.Slice.sliceApplied Builtin.Slice.sliceFields
  refine wpAny_bind (wpAny_bind (wpAny_field hos hds (x := .none) rfl (wpAny_bind (wpAny_field hos hds (x := .none) rfl (wpAny_bind (wpAny_field hos hds (x := vs) rfl (wpAny_pure ?_)))))))
  refine wpAny_bind (HT.slicePart_ ps ?_)
  show wpAny _ _ (if ((-1 : Int) == 0) = true then _ else _) _ _ s
  rw [if_neg (by decide)]
  refine wpAny_bind (HT.slicePart_ .none (wpAny_bind (HT.slicePart_ .none (wpAny_bind (wpAny_pure ?_)))))
  show wpAny _ _ (match Builtin.Slice.sliceAdjust none none (-1) (n : Int) with | (lo, hi) => pure (lo, (-1 : Int), Builtin.Slice.slicePlaces lo hi (-1))) _ _ s
  have e : Builtin.Slice.sliceAdjust none none (-1) (n : Int) = ((n : Int) - 1, -1) := by
    first | rfl | simp [Builtin.Slice.sliceAdjust]
  rw [e]
  have e2 : Builtin.Slice.slicePlaces ((n : Int) - 1) (-1) (-1) = n := by
    unfold Builtin.Slice.slicePlaces
    simp
    omega
  show wpAny _ _ (pure ((n : Int) - 1, (-1 : Int), Builtin.Slice.slicePlaces ((n : Int) - 1) (-1) (-1))) _ _ s
  rw [e2]
  exact wpAny_pure h
theorem pick_rev (xs : Array Value) : ((List.range xs.size).filterMap fun (m : Nat) => xs[((xs.size : Int) - 1 + (m : Int) * (-1)).toNat]?).toArray = xs.toList.reverse.toArray := by
  congr 1
  have e : (List.range xs.size).filterMap (fun (m : Nat) => xs[((xs.size : Int) - 1 + (m : Int) * (-1)).toNat]?) = ((List.range xs.size).map (fun k => xs.size - 1 - k)).filterMap (xs[·]?) := by
    rw [List.filterMap_map]
    congr 1
    funext m
    have : ((xs.size : Int) - 1 + (m : Int) * (-1)).toNat = xs.size - 1 - m := by omega
    rw [this]; rfl
  rw [e, PySem.W.krv_range, List.filterMap_reverse, PySem.W.krv_all]
theorem getItem_tuple_rev {t sl : Addr} {items : Array Value} {vs : Value} {Q : Value → Shared → Prop} (ht : IsTup s.heap t items) (hs : s.heap.IsSliceOf sl .none .none vs) (ps : IsPart vs (some (-1)))
    (h : Q (.ref s.heap.objs.size) { s with heap := s.heap.push { cls := .type "tuple", data := .seq items.toList.reverse.toArray } })
    (hsz : items.size ≤ sizeLine) : wpAny (model prog w) A (getItem (.ref t) (.ref sl)) Q E s := by
  have htake : sizeOk (.seq items.toList.reverse.toArray) := by
    show items.toList.reverse.toArray.size ≤ sizeLine
    rw [List.size_toArray, List.length_reverse, Array.length_toList]
    omega
  obtain ⟨os, hos, hcs, hds⟩ := id hs
  have hTs : s.TypeIs (.ref sl) "slice" := ⟨os, hos, hcs⟩
  unfold getItem
  try with_reducible refine wpAny_holding ?_
  first | refine wpAny_bind (wpAny_pure ?_) | skip
  refine wpAny_bind (wpAny_sequenceKey ht.typeIs (by decide) ?_)
  refine wpAny_bind (wpAny_callSpecial?_slot (name := Str.ofString "__getitem__") ht.typeIs PyProof.Rows.slot_tuple_getitem
    (wpAny_call_entry PyProof.Rows.slot_tuple_getitem ht.typeIs entry_tuple_getitem ?_ (args_tuple_getitem _ _)))
  show wpAny _ _ (Builtin.Tuple.tupleItemsOf (.ref t) >>= _) _ _ s
  refine wpAny_bind (tupleItemsOf_ ht ?_)
  refine wpAny_bind (wpAny_typeOf hTs ?_)
  rw [if_pos (by decide)]
  refine wpAny_bind (sliceApplied_rev hs ps ?_)
  have hno : ¬ (((items.size : Int) - 1 == 0 && (-1 : Int) == 1 && items.size == items.size) = true) := by simp
  show wpAny _ _ (if ((items.size : Int) - 1 == 0 && (-1 : Int) == 1 && items.size == items.size) = true then _ else _) _ _ s
  rw [if_neg hno, pick_rev]
  first
    | exact wpAny_bind (m := Builtin.Tuple.tupleExact _) (wpAny_newObj_type (wpAny_pure ⟨_, rfl, wpAny_pure h⟩) htake)
    | exact wpAny_bind (m := Builtin.Tuple.tupleExact _) (wpAny_newObj_type (wpAny_bind (wpAny_pure (wpAny_pure ⟨_, rfl, wpAny_pure h⟩))) htake)
    | exact wpAny_bind (wpAny_bind (m := Builtin.Tuple.tupleExact _) (wpAny_newObj_type (wpAny_pure (wpAny_pure ⟨_, rfl, wpAny_pure h⟩)) htake))
    | exact wpAny_bind (wpAny_bind (m := Builtin.Tuple.tupleExact _) (wpAny_newObj_type (wpAny_pure ⟨_, rfl, wpAny_pure h⟩) htake))
end

section
variable {X : Cx}
def tRev (K : PySem.W.Frag) (te : TE) : TE := fun σ H Q => te σ H fun x H1 => (∃ a xs, x = .ref a ∧ SqL K H1 a xs ∧ ∀ p, H1 p = none → Q (.ref p) (upd H1 p (.lst xs.reverse))) ∨ ∃ a xs, x = .ref a ∧ SqT K H1 a xs ∧ ∀ p, H1 p = none → Q (.ref p) (upd H1 p (.tup xs.reverse))
theorem pe_rev {e : Expr} {te : TE} {k : Nat} {p1 p2 p3 pos : Pos} (he : PE X e te) : PE X (.Subscript e (.Slice none none (some (.UnaryOp .USub (.Constant (.int 1) k p1) p2)) p3) pos) (tRev X.K te) := by
  refine ⟨fun pins s σ H Q I h => ?_⟩
  refine Subscript_ (thn (he.run pins s σ H _ I h) fun v s1 ⟨x, H1, I1, r1, q1⟩ => ?_)
  have hst : PO X (some (.UnaryOp .USub (.Constant (.int 1) k p1) p2)) (tPart (tUn (rU fun i => .int (-i)) (tC (.int 1)))) := po_some (pe_un un_neg pe_int)
  rcases q1 with ⟨a, xs, ex, hx, q⟩ | ⟨a, xs, ex, hx, q⟩
  · subst ex
    cases r1
    refine wpAny_Slice (thn (po_none.run pins s1 σ H1 (fun o H2 => o = none ∧ H2 = H1) I1 ⟨rfl, rfl⟩) fun vl s2 ⟨l, H2, I2, pl, el, e2⟩ => ?_)
    subst el e2
    refine thn (po_none.run pins s2 σ H2 (fun o H3 => o = none ∧ H3 = H2) I2 ⟨rfl, rfl⟩) fun vu s3 ⟨u, H3, I3, pu, eu, e3⟩ => ?_
    subst eu e3
    refine thn (hst.run pins s3 σ H3 (fun o H4 => o = some (-1) ∧ H4 = H3) I3 ⟨1, rfl, -1, rfl, rfl, rfl⟩) fun vs s4 ⟨o, H4, I4, ps, eo, e4⟩ => ?_
    subst eo e4
    have I5 : Inv X pins σ H4 { s4 with heap := s4.heap.push { cls := .type "slice", data := .fields #[vl, vu, vs] } } := I4.kept (t' := s4.toks) fun b ob q => Heap.get?_push_of_some _ q
    obtain ⟨its, r, ht, hz⟩ := I5.list hx
    have hlen := r.length
    show wpAny (model X.prog X.w) X.A (subscriptTail e (.Slice none none (some (.UnaryOp .USub (.Constant (.int 1) k p1) p2)) p3) (.ref a) (.ref s4.heap.objs.size)) (EP X pins σ Q) X.xe { s4 with heap := s4.heap.push { cls := .type "slice", data := .fields #[vl, vu, vs] } }
    refine tail_any (ops := [.ref a, .ref s4.heap.objs.size]) ht.isList.typeIs (PySem.slot_list_getitem.lookup) ?_ (by with_unfolding_all rfl)
    refine wpAny_getItem_list_slice ht.isList (Heap.IsSliceOf.new _ vl vu vs) pl pu ps (by decide) ?_ (by rw [List.size_toArray]; omega)
    rw [PySem.W.krv_pick]
    refine ⟨.ref _, _, I5.laid (t' := s4.toks) (o := .lst xs.reverse) (fun b ob q => Heap.get?_push_of_some _ q) (Nat.le_refl _) ?_, rfl, q _ (I5.hok.fresh (Nat.le_refl _))⟩
    exact ⟨by rw [List.length_reverse]; exact hz, _, 0, r.reverse, Heap.get?_push_size _ rfl⟩
  · subst ex
    cases r1
    refine wpAny_Slice (thn (po_none.run pins s1 σ H1 (fun o H2 => o = none ∧ H2 = H1) I1 ⟨rfl, rfl⟩) fun vl s2 ⟨l, H2, I2, pl, el, e2⟩ => ?_)
    subst el e2
    refine thn (po_none.run pins s2 σ H2 (fun o H3 => o = none ∧ H3 = H2) I2 ⟨rfl, rfl⟩) fun vu s3 ⟨u, H3, I3, pu, eu, e3⟩ => ?_
    subst eu e3
    refine thn (hst.run pins s3 σ H3 (fun o H4 => o = some (-1) ∧ H4 = H3) I3 ⟨1, rfl, -1, rfl, rfl, rfl⟩) fun vs s4 ⟨o, H4, I4, ps, eo, e4⟩ => ?_
    subst eo e4
    have I5 : Inv X pins σ H4 { s4 with heap := s4.heap.push { cls := .type "slice", data := .fields #[vl, vu, vs] } } := I4.kept (t' := s4.toks) fun b ob q => Heap.get?_push_of_some _ q
    obtain ⟨its, r, ht, hz⟩ := I5.tuple hx
    have hlen := r.length
    cases pl
    cases pu
    show wpAny (model X.prog X.w) X.A (subscriptTail e (.Slice none none (some (.UnaryOp .USub (.Constant (.int 1) k p1) p2)) p3) (.ref a) (.ref s4.heap.objs.size)) (EP X pins σ Q) X.xe { s4 with heap := s4.heap.push { cls := .type "slice", data := .fields #[.none, .none, vs] } }
    refine tail_any (ops := [.ref a, .ref s4.heap.objs.size]) ht.typeIs (PyProof.Rows.slot_tuple_getitem.lookup) ?_ (by with_unfolding_all rfl)
    refine getItem_tuple_rev ht (Heap.IsSliceOf.new _ .none .none vs) ps ?_ (by rw [List.size_toArray]; omega)
    refine ⟨.ref _, _, I5.laid (t' := s4.toks) (o := .tup xs.reverse) (fun b ob q => Heap.get?_push_of_some _ q) (Nat.le_refl _) ?_, rfl, q _ (I5.hok.fresh (Nat.le_refl _))⟩
    exact ⟨by rw [List.length_reverse]; exact hz, _, r.reverse, IsTup.new _ _⟩
def revD : D → Option D
  | .tup l => some (.tup l.reverse)
  | .lst l => some (.lst l.reverse)
  | _ => none
def fRev (x : M D) : M D := x.bind fun d => M.opt (revD d)
theorem m_rev {Wx : WX} {e : Expr} {f : Dn} {k : Nat} {p1 p2 p3 pos : Pos} (he : PRm X Wx e f) : PEm X Wx (.Subscript e (.Slice none none (some (.UnaryOp .USub (.Constant (.int 1) k p1) p2)) p3) pos) (fun sl => fRev (f sl)) := by
  refine (pe_rev he).mimp fun σ H Q ⟨ws, B0, sl, w, e, h⟩ => ?_
  refine ⟨ws, B0, sl, w, e, (runAt.bind h).mono fun ws1 w1 d H1 l1 e1 h1 v hv => ?_⟩
  obtain ⟨d', q, h2⟩ := runAt.opt h1
  cases d <;> cases q
  · obtain ⟨z, a, vs, rfl, t, r⟩ := e1.rv hv rfl
    refine .inr ⟨a, vs, rfl, t.sq, fun p hp => runAt.grow (Grow.new hp) e1 h2 _ ?_⟩
    exact .tup (by rw [List.length_reverse]; exact z) (.inl ⟨e1.fresh hp, .inl upd_same⟩) ((r.reverse).grow (Grow.new hp))
  · obtain ⟨z, a, vs, rfl, t, r⟩ := e1.rv hv rfl
    refine .inl ⟨a, vs, rfl, .inl (.inl t), fun p hp => runAt.grow (Grow.new hp) e1 h2 _ ?_⟩
    exact .lst (by rw [List.length_reverse]; exact z) (e1.fresh hp) upd_same ((r.reverse).grow (Grow.new hp))
end

/-! ### str(i) -/
def strF (ds : List D) : Option D := match ds with
  | [.int i] => if i.natAbs.log2 < 1920 then some (.str (toString i)) else none
  | _ => none
section
variable {K : PySem.W.Frag}
theorem cs_str : CallS K (fun xs H Q => ∃ i : Int, xs = [.int i] ∧ i.natAbs.log2 < 1920 ∧ Q (.str (toString i)) H) strF := by
  intro ws B H xs ds d Q hb hx ho q
  unfold strF at ho
  split at ho
  · split at ho
    · rename_i hl
      obtain ⟨v, rfl, hv⟩ := one_of hx
      cases ho; cases hv
      exact ⟨_, rfl, hl, q _ _ (Grow.refl H) (.str _)⟩
    · cases ho
  · cases ho
theorem ct_str : CallT strF := fun ds d h => by unfold strF at h; split at h <;> first | rfl | cases h
end
section
variable {X : Cx} {Wx : WX} {a : Expr} {pos p : Pos} {g : An}
theorem m_str1 (ha : PArm X Wx [a] g) (hm : X.mg "str" = none) (hg : Gl X "str" := by rfl) (he : starEach [a] X.env = (false, eval a X.env) :: starEach [] X.env := by rfl) : PEm X Wx (.Call (.Name "str" p) [a] [] pos) (fun sl => fCB strF (g sl)) :=
  m_callTy call_str_int cs_str ct_str hg hm (by decide +kernel) ha (by decide) (by decide) he rfl
end

/-! ### sorted(l), of ints -/
def sortF (ds : List D) : Option D := match ds with
  | [.lst l] => (intsOf l).map fun ns => .lst ((ns.mergeSort fun a b => decide (a ≤ b)).map D.int)
  | _ => none
theorem srt_eq {a b : List Int} (h : a.Perm b) (s : a.Pairwise (· ≤ ·)) : a = b.mergeSort fun a b => decide (a ≤ b) := by
  have h2 : (b.mergeSort fun a b => decide (a ≤ b)).Pairwise (· ≤ ·) := by
    have := List.pairwise_mergeSort (le := fun (a b : Int) => decide (a ≤ b)) (fun a b c h1 h2 => by simp at *; omega) (fun a b => by simp; omega) b
    exact this.imp fun h => by simpa using h
  refine List.Perm.eq_of_pairwise (le := (· ≤ ·)) (fun x y _ _ h1 h2 => Int.le_antisymm h1 h2) s h2 (h.trans (List.mergeSort_perm b _).symm)
section
variable {K : PySem.W.Frag}
theorem ints_back : ∀ {l : List D} {ns : List Int}, intsOf l = some ns → l = ns.map D.int
  | [], ns, h => by cases h; rfl
  | d :: l, ns, h => by
    cases d <;> first | (cases h; done) | skip
    rename_i i
    rw [intsOf] at h
    cases q : intsOf l with
    | none => rw [q] at h; cases h
    | some ms => rw [q] at h; cases h; rw [ints_back q]; rfl
theorem cs_sort : CallS K (rSortedI K) sortF := by
  intro ws B H xs ds d Q hb hx ho q
  unfold sortF at ho
  split at ho
  · rename_i l
    obtain ⟨v, rfl, hv⟩ := one_of hx
    cases qi : intsOf l with
    | none => rw [qi] at ho; cases ho
    | some ns =>
      rw [qi] at ho
      cases ho
      obtain ⟨z, a, vs, rfl, ha, ra⟩ := hv
      rw [ints_back qi] at ra z
      have e := DRs.of_ints ns ra
      subst e
      refine ⟨a, ns, rfl, .inl (.inl ha), fun ns' p hp hs hn => ?_⟩
      rw [srt_eq hp hs]
      have hl : (ns.mergeSort fun a b => decide (a ≤ b)).length = ns.length := List.length_mergeSort ns
      refine q _ _ (Grow.new hn) (.lst (by rw [List.length_map, hl]; rw [List.length_map] at z; exact z) (fun z => hb p z hn) upd_same (DRs.ints _))
  · cases ho
theorem ct_sort : CallT sortF := fun ds d h => by unfold sortF at h; split at h <;> first | rfl | cases h
end
section
variable {X : Cx} {Wx : WX} {a : Expr} {pos p : Pos} {g : An}
theorem m_sorted (ha : PArm X Wx [a] g) (hm : X.mg "sorted" = none) (hg : Gl X "sorted" := by rfl) (he : starEach [a] X.env = (false, eval a X.env) :: starEach [] X.env := by rfl) : PEm X Wx (.Call (.Name "sorted" p) [a] [] pos) (fun sl => fCB sortF (g sl)) :=
  m_callB cr_sortedI cs_sort ct_sort hg hm (by decide +kernel) ha (by decide) (by decide) he rfl
end
end Pm
namespace Pm
open PySem PySem.Spec PyProof.Rows L2 RZ
/-! ### how many -/
theorem cnt_c4 {n : Nat} {a b c d : Dn} {g : An} (h : Cnt n g) : Cnt (n + 4) (fun sl => fCons (a sl) (fCons (b sl) (fCons (c sl) (fCons (d sl) (g sl))))) := cnt_cons (f := a) (cnt_cons (f := b) (cnt_cons (f := c) (cnt_cons (f := d) h)))
end Pm
namespace Pm
open PySem PySem.Spec PyProof.Rows L2 RZ
/-! ### a truth as a number -/
section
variable {X : Cx}
theorem op_add_bi : OpR X (binaryOp .Add) (fun x y H Q => ∃ (k : Bool) (i : Int), x = .bl k ∧ y = .int i ∧ Q (.int ((if k = true then 1 else 0) + i)) H) := by
  intro pins s σ H x y v u Q I rx ry h
  obtain ⟨k, i, rfl, rfl, q⟩ := h
  obtain ⟨t, rfl⟩ := ry
  cases rx
  exact PySem.IntBool.add_bool_int ⟨.int _, H, I.tok _, ⟨_, rfl⟩, q⟩
theorem op_sub_bi : OpR X (binaryOp .Sub) (fun x y H Q => ∃ (k : Bool) (i : Int), x = .bl k ∧ y = .int i ∧ Q (.int ((if k = true then 1 else 0) - i)) H) := by
  intro pins s σ H x y v u Q I rx ry h
  obtain ⟨k, i, rfl, rfl, q⟩ := h
  obtain ⟨t, rfl⟩ := ry
  cases rx
  exact PySem.IntBool.sub_bool_int ⟨.int _, H, I.tok _, ⟨_, rfl⟩, q⟩
end
def addB (x y : D) : Option D := match x, y with
  | .bl k, .int i => some (.int ((if k = true then 1 else 0) + i))
  | .int i, .int j => some (.int (i + j))
  | _, _ => none
def subB (x y : D) : Option D := match x, y with
  | .bl k, .int i => some (.int ((if k = true then 1 else 0) - i))
  | .int i, .int j => some (.int (i - j))
  | _, _ => none
section
variable {K : PySem.W.Frag}
def rAddB : R2 := fun x y H Q => rI0 (fun i j => .int (i + j)) x y H Q ∨ (∃ (k : Bool) (i : Int), x = .bl k ∧ y = .int i ∧ Q (.int ((if k = true then 1 else 0) + i)) H)
def rSubB : R2 := fun x y H Q => rI0 (fun i j => .int (i - j)) x y H Q ∨ (∃ (k : Bool) (i : Int), x = .bl k ∧ y = .int i ∧ Q (.int ((if k = true then 1 else 0) - i)) H)
theorem op_addB {X : Cx} : OpR X (binaryOp .Add) rAddB := op_add.or op_add_bi
theorem op_subB {X : Cx} : OpR X (binaryOp .Sub) rSubB := op_sub.or op_sub_bi
theorem so_addB : OpS K rAddB addB := by
  intro ws B H x y dx dy d Q hb hx hy ho q
  unfold addB at ho
  split at ho
  · cases ho; cases hx; cases hy; exact .inr ⟨_, _, rfl, rfl, q _ _ (Grow.refl H) (.int _)⟩
  · cases ho; cases hx; cases hy; exact .inl ⟨_, _, rfl, rfl, q _ _ (Grow.refl H) (.int _)⟩
  · cases ho
theorem so_subB : OpS K rSubB subB := by
  intro ws B H x y dx dy d Q hb hx hy ho q
  unfold subB at ho
  split at ho
  · cases ho; cases hx; cases hy; exact .inr ⟨_, _, rfl, rfl, q _ _ (Grow.refl H) (.int _)⟩
  · cases ho; cases hx; cases hy; exact .inl ⟨_, _, rfl, rfl, q _ _ (Grow.refl H) (.int _)⟩
  · cases ho
theorem ot_addB : OpT addB := fun x y d h => by unfold addB at h; split at h <;> first | exact ⟨rfl, rfl⟩ | cases h
theorem ot_subB : OpT subB := fun x y d h => by unfold subB at h; split at h <;> first | exact ⟨rfl, rfl⟩ | cases h
end
/-! ### str of a truth or a number -/
section
variable {X : Cx}
theorem call_str_bool : CallR X (.type "str") (fun xs H Q => ∃ k : Bool, xs = [.bl k] ∧ Q (.str (if k then "True" else "False")) H) := by
  intro pins s σ H xs us Q I r h
  obtain ⟨k, rfl, q⟩ := h
  obtain ⟨u, rfl, ru⟩ := vals1 r
  cases ru
  exact callType_new F.called_str (by decide) (F.typeCall_str_1 _) (F.newCall_str_1 _) (fun obj => F.args_object_init_2 obj _) F.entry_str_new
    (meets_str_new (S := fun _ R s => R (.ok (.ret (.str (if k then "True" else "False") s.toks))) { s with toks := s.toks + 1 }) fun _ _ _ _ s hq =>
      wpAny_strOf_gives rfl (PySem.typeIs_bool s k) F.slot_bool_str F.slot_bool_repr F.entry_bool_repr (F.args_bool_repr_1 _) (gives_bool_repr k) hq (hsz := by cases k <;> decide)) ⟨typeIs_str _ _ _, ⟨.str _, H, I.tok _, ⟨_, rfl⟩, q⟩⟩
def rStrB : List V → Hp → VK → Prop := fun xs H Q => (∃ i : Int, xs = [.int i] ∧ i.natAbs.log2 < 1920 ∧ Q (.str (toString i)) H) ∨ ∃ k : Bool, xs = [.bl k] ∧ Q (.str (if k then "True" else "False")) H
theorem call_strB : CallR X (.type "str") rStrB := by
  intro pins s σ H xs us Q I r h
  rcases h with h | h
  · exact call_str_int pins s σ H xs us Q I r h
  · exact call_str_bool pins s σ H xs us Q I r h
end
def strB (ds : List D) : Option D := match ds with
  | [.int i] => if i.natAbs.log2 < 1920 then some (.str (toString i)) else none
  | [.bl k] => some (.str (if k then "True" else "False"))
  | _ => none
section
variable {K : PySem.W.Frag}
theorem cs_strB : CallS K rStrB strB := by
  intro ws B H xs ds d Q hb hx ho q
  unfold strB at ho
  split at ho
  · split at ho
    · rename_i hl
      obtain ⟨v, rfl, hv⟩ := one_of hx
      cases ho; cases hv
      exact .inl ⟨_, rfl, hl, q _ _ (Grow.refl H) (.str _)⟩
    · cases ho
  · obtain ⟨v, rfl, hv⟩ := one_of hx
    cases ho; cases hv
    exact .inr ⟨_, rfl, q _ _ (Grow.refl H) (.str _)⟩
  · cases ho
theorem ct_strB : CallT strB := fun ds d h => by unfold strB at h; split at h <;> first | rfl | cases h
end
section
variable {X : Cx} {Wx : WX} {a : Expr} {pos p : Pos} {g : An}
theorem m_strB (ha : PArm X Wx [a] g) (hm : X.mg "str" = none) (hg : Gl X "str" := by rfl) (he : starEach [a] X.env = (false, eval a X.env) :: starEach [] X.env := by rfl) : PEm X Wx (.Call (.Name "str" p) [a] [] pos) (fun sl => fCB strB (g sl)) :=
  m_callTy call_strB cs_strB ct_strB hg hm (by decide +kernel) ha (by decide) (by decide) he rfl
end
end Pm
namespace Pm
open PySem PySem.Spec PyProof.Rows L2 RZ
/-! ### zip of three tuples: the iterators at N, N + 1, N + 2, theirs at N + 3, what was told at N + 4, the zip at N + 5 -/
theorem an {x y : Nat} (h : x ≠ y) : @Ne Addr x y := h
abbrev Is3 (h : Heap) (T : Addr) (a b c : Value) : Prop := h.get? T = some { cls := .type "tuple", data := .seq #[a, b, c] }
section
variable {prog : Program} {w : World} {A : Around} {E : Value → Shared → Prop} {s : Shared}
theorem upd3 {T : Addr} {a b c x : Value} {k : Nat} {Q : Unit → Shared → Prop} (e : Is3 s.heap T a b c)
    (f : ∀ g, g.get? T = some { cls := .type "tuple", data := .seq ((#[a, b, c] : Array Value).setIfInBounds k x) } → Heap.SameBut T s.heap g → Q () { s with heap := g }) :
    wpAny (model prog w) A (updateSeq T (·.setIfInBounds k x)) Q E s := wpAny_updateSeq e rfl (f _ (by rw [Heap.get?_update_self _ e rfl]; simp [Obj.mapSeq]) (Heap.SameBut.update ..))
variable {N a b c : Nat} {k : Nat} {xs ys zs : Array Value} {x y u p q r : Value}
theorem zip3_item {Q : Value → Shared → Prop} (ha : a < N) (hb : b < N) (hc : c < N) (hz : IsZip s.heap (N + 5) (N + 3) (N + 4) .none) (tI : Is3 s.heap (N + 3) (.ref N) (.ref (N + 1)) (.ref (N + 2))) (tO : Is3 s.heap (N + 4) p q r)
    (j1 : s.heap.IsTupleIter N a k) (j2 : s.heap.IsTupleIter (N + 1) b k) (j3 : s.heap.IsTupleIter (N + 2) c k) (l1 : s.heap.IsTuple a xs) (l2 : s.heap.IsTuple b ys) (l3 : s.heap.IsTuple c zs) (hx : xs[k]? = some x) (hy : ys[k]? = some y) (hu : zs[k]? = some u)
    (hQ : ∀ g, IsZip g (N + 5) (N + 3) (N + 4) (rawInt s.heap.objs.size) → Is3 g (N + 4) x y u → g.IsTupleIter N a (k + 1) → g.IsTupleIter (N + 1) b (k + 1) → g.IsTupleIter (N + 2) c (k + 1) → Is3 g s.heap.objs.size x y u → g.objs.size = s.heap.objs.size + 1 →
      (∀ (d : Addr) o, d ≠ N + 5 → d ≠ N + 4 → d ≠ N → d ≠ N + 1 → d ≠ N + 2 → s.heap.get? d = some o → g.get? d = some o) → Q (.ref s.heap.objs.size) { s with heap := g }) :
    wpAny (model prog w) A (Builtin.«zip.__next__» ⟨[.ref (N + 5)], []⟩) (fun fin s' => ∃ v, fin = .done (.ret v) ∧ Q v s') E s := by
  show wpAny _ _ (field (.ref (N + 5)) 2 >>= _) _ _ _
  refine wpAny_bind (wpAny_field hz rfl (x := .bool false) rfl ?_)
  show wpAny _ _ (field (.ref (N + 5)) 3 >>= _) _ _ _
  refine wpAny_bind (wpAny_field hz rfl (x := .ref (N + 3)) rfl (wpAny_bind (wpAny_seqItems tI rfl ?_)))
  show wpAny _ _ (Builtin.SmallTypes.ownedTupleIsFree (.ref (N + 5)) >>= _) _ _ _
  refine wpAny_bind ?_
  unfold Builtin.SmallTypes.ownedTupleIsFree
  refine wpAny_bind (wpAny_field hz rfl (x := .none) rfl (wpAny_pure ?_))
  simp only [if_true]
  refine wpAny_bind (wpAny_rule (wpAny_bind (wpAny_field hz rfl (x := .ref (N + 4)) rfl (wpAny_bind (wpAny_setField_rec hz (by simp) fun g1 z1 s1 => ?_)))))
  replace z1 : IsZip g1 (N + 5) (N + 3) (N + 4) .ellipsis := z1
  refine wpAny_bind ?_
  simp only [List.zipIdx_cons, List.zipIdx_nil, List.forIn_cons, List.forIn_nil]
  -- the first
  refine wpAny_bind (wpAny_bind (wpAny_onRaise ?_))
  show wpAny _ _ (Builtin.SmallTypes.nextOf (.ref N) >>= _) _ _ _
  refine wpAny_bind (nextOf_tuple_item (j1.extBut s1.extBut (an (by omega))) (l1.extBut s1.extBut (an (by omega))) hx fun g2 i2 s2 => wpAny_pure ?_)
  have o2 : Is3 g2 (N + 4) p q r := s2.extBut _ _ (an (by omega)) (s1.extBut _ _ (an (by omega)) tO)
  refine wpAny_bind (wpAny_seqItems o2 rfl (wpAny_bind (upd3 o2 fun g3 o3 s3 => ?_)))
  replace o3 : Is3 g3 (N + 4) x q r := o3
  refine wpAny_bind (wpAny_letGo (wpAny_pure ?_))
  -- the second
  refine wpAny_bind (wpAny_bind (wpAny_onRaise ?_))
  show wpAny _ _ (Builtin.SmallTypes.nextOf (.ref (N + 1)) >>= _) _ _ _
  refine wpAny_bind (nextOf_tuple_item (((j2.extBut s1.extBut (an (by omega))).extBut s2.extBut (an (by omega))).extBut s3.extBut (an (by omega))) (((l2.extBut s1.extBut (an (by omega))).extBut s2.extBut (an (by omega))).extBut s3.extBut (an (by omega))) hy fun g4 i4 s4 => wpAny_pure ?_)
  have o4 : Is3 g4 (N + 4) x q r := s4.extBut _ _ (an (by omega)) o3
  refine wpAny_bind (wpAny_seqItems o4 rfl (wpAny_bind (upd3 o4 fun g5 o5 s5 => ?_)))
  replace o5 : Is3 g5 (N + 4) x y r := o5
  refine wpAny_bind (wpAny_letGo (wpAny_pure ?_))
  -- the third
  refine wpAny_bind (wpAny_bind (wpAny_onRaise ?_))
  show wpAny _ _ (Builtin.SmallTypes.nextOf (.ref (N + 2)) >>= _) _ _ _
  refine wpAny_bind (nextOf_tuple_item (((((j3.extBut s1.extBut (an (by omega))).extBut s2.extBut (an (by omega))).extBut s3.extBut (an (by omega))).extBut s4.extBut (an (by omega))).extBut s5.extBut (an (by omega))) (((((l3.extBut s1.extBut (an (by omega))).extBut s2.extBut (an (by omega))).extBut s3.extBut (an (by omega))).extBut s4.extBut (an (by omega))).extBut s5.extBut (an (by omega))) hu fun g6 i6 s6 => wpAny_pure ?_)
  have o6 : Is3 g6 (N + 4) x y r := s6.extBut _ _ (an (by omega)) o5
  refine wpAny_bind (wpAny_seqItems o6 rfl (wpAny_bind (upd3 o6 fun g7 o7 s7 => ?_)))
  replace o7 : Is3 g7 (N + 4) x y u := o7
  refine wpAny_bind (wpAny_letGo (wpAny_pure (wpAny_pure ?_)))
  refine wpAny_bind (wpAny_seqItems o7 rfl (wpAny_bind (wpAny_newTuple ?_)))
  have hsz : g7.objs.size = s.heap.objs.size := by rw [s7.1, s6.1, s5.1, s4.1, s3.1, s2.1, s1.1]
  have z7 : IsZip g7 (N + 5) (N + 3) (N + 4) .ellipsis := s7.extBut _ _ (an (by omega)) (s6.extBut _ _ (an (by omega)) (s5.extBut _ _ (an (by omega)) (s4.extBut _ _ (an (by omega)) (s3.extBut _ _ (an (by omega)) (s2.extBut _ _ (an (by omega)) z1)))))
  have kp : ∀ (d : Addr) o, d ≠ N + 5 → d ≠ N + 4 → d ≠ N → d ≠ N + 1 → d ≠ N + 2 → s.heap.get? d = some o → g7.get? d = some o := fun d o c1 c2 c3 c4 c5 e =>
    s7.extBut _ _ c2 (s6.extBut _ _ c5 (s5.extBut _ _ c2 (s4.extBut _ _ c4 (s3.extBut _ _ c2 (s2.extBut _ _ c3 (s1.extBut _ _ c1 e))))))
  have f1 : g7.IsTupleIter N a (k + 1) := ((((i2.extBut s3.extBut (an (by omega))).extBut s4.extBut (an (by omega))).extBut s5.extBut (an (by omega))).extBut s6.extBut (an (by omega))).extBut s7.extBut (an (by omega))
  have f2 : g7.IsTupleIter (N + 1) b (k + 1) := ((i4.extBut s5.extBut (an (by omega))).extBut s6.extBut (an (by omega))).extBut s7.extBut (an (by omega))
  have f3 : g7.IsTupleIter (N + 2) c (k + 1) := i6.extBut s7.extBut (an (by omega))
  have zlt : N + 5 < g7.objs.size := Heap.lt_size z7
  show wpAny _ _ (Builtin.SmallTypes.ownedTupleHandOut (.ref (N + 5)) (.ref g7.objs.size) >>= _) _ _ _
  refine wpAny_bind ?_
  unfold Builtin.SmallTypes.ownedTupleHandOut
  have z8 : IsZip (g7.push { cls := .type "tuple", data := .seq #[x, y, u] }) (N + 5) (N + 3) (N + 4) .ellipsis := Heap.get?_push_of_some _ z7
  refine wpAny_bind (wpAny_setField_rec z8 (by simp) fun g9 z9 s9 => ?_)
  replace z9 : IsZip g9 (N + 5) (N + 3) (N + 4) (rawInt g7.objs.size) := z9
  refine wpAny_setField_rec z9 (by simp) fun g10 z10 s10 => ?_
  replace z10 : IsZip g10 (N + 5) (N + 3) (N + 4) (rawInt g7.objs.size) := z10
  have up : ∀ (d : Addr) o, d ≠ N + 5 → g7.get? d = some o → g10.get? d = some o := fun d o c1 e => s10.extBut _ _ c1 (s9.extBut _ _ c1 (Heap.get?_push_of_some _ e))
  have t10 : Is3 g10 g7.objs.size x y u := s10.extBut _ _ (Nat.ne_of_gt zlt) (s9.extBut _ _ (Nat.ne_of_gt zlt) (Heap.get?_push_size _ rfl))
  have y10 : g10.objs.size = g7.objs.size + 1 := by rw [s10.1, s9.1, Heap.size_push]
  rw [hsz] at z10 t10 y10
  refine wpAny_pure ⟨_, rfl, ?_⟩
  show Q (.ref g7.objs.size) _
  rw [hsz]
  exact hQ g10 z10 (up _ _ (an (by omega)) o7) (f1.at fun o e => up _ o (an (by omega)) e) (f2.at fun o e => up _ o (an (by omega)) e) (f3.at fun o e => up _ o (an (by omega)) e) t10 y10 fun d o c1 c2 c3 c4 c5 e => up d o c1 (kp d o c1 c2 c3 c4 c5 e)
theorem zip3_end {Q : Fin → Shared → Prop} (hh : A.handled = none) (ha : a < N) (hb : b < N) (hc : c < N) (hz : IsZip s.heap (N + 5) (N + 3) (N + 4) .none) (tI : Is3 s.heap (N + 3) (.ref N) (.ref (N + 1)) (.ref (N + 2))) (tO : Is3 s.heap (N + 4) p q r)
    (j1 : s.heap.IsTupleIter N a k) (j2 : s.heap.IsTupleIter (N + 1) b k) (j3 : s.heap.IsTupleIter (N + 2) c k) (l1 : s.heap.IsTuple a xs) (l2 : s.heap.IsTuple b ys) (l3 : s.heap.IsTuple c zs) (hend : xs[k]? = none ∨ ys[k]? = none ∨ zs[k]? = none)
    (hE : ∀ g e, (∀ (d : Addr) o, d ≠ N + 5 → d ≠ N + 4 → d ≠ N → d ≠ N + 1 → d ≠ N + 2 → s.heap.get? d = some o → g.get? d = some o) → (∃ o, g.get? e = some o ∧ o.cls = .type "StopIteration") → E (.ref e) { s with heap := g }) :
    wpAny (model prog w) A (Builtin.«zip.__next__» ⟨[.ref (N + 5)], []⟩) Q E s := by
  have off : ∀ {g : Heap} {e : Addr} {oe : Obj}, IsZip g (N + 5) (N + 3) (N + 4) .ellipsis → g.get? e = some oe → oe.cls = .type "StopIteration" → e ≠ N + 5 := fun zz he hcl x => by
    subst x; rw [zz] at he; cases he; simp at hcl
  show wpAny _ _ (field (.ref (N + 5)) 2 >>= _) _ _ _
  refine wpAny_bind (wpAny_field hz rfl (x := .bool false) rfl ?_)
  show wpAny _ _ (field (.ref (N + 5)) 3 >>= _) _ _ _
  refine wpAny_bind (wpAny_field hz rfl (x := .ref (N + 3)) rfl (wpAny_bind (wpAny_seqItems tI rfl ?_)))
  show wpAny _ _ (Builtin.SmallTypes.ownedTupleIsFree (.ref (N + 5)) >>= _) _ _ _
  refine wpAny_bind ?_
  unfold Builtin.SmallTypes.ownedTupleIsFree
  refine wpAny_bind (wpAny_field hz rfl (x := .none) rfl (wpAny_pure ?_))
  simp only [if_true]
  refine wpAny_bind (wpAny_rule (wpAny_bind (wpAny_field hz rfl (x := .ref (N + 4)) rfl (wpAny_bind (wpAny_setField_rec hz (by simp) fun g1 z1 s1 => ?_)))))
  replace z1 : IsZip g1 (N + 5) (N + 3) (N + 4) .ellipsis := z1
  refine wpAny_bind ?_
  simp only [List.zipIdx_cons, List.zipIdx_nil, List.forIn_cons, List.forIn_nil]
  refine wpAny_bind (wpAny_bind (wpAny_onRaise ?_))
  show wpAny _ _ (Builtin.SmallTypes.nextOf (.ref N) >>= _) _ _ _
  cases hx : xs[k]? with
  | none =>
    refine wpAny_bind (nextOf_tuple_end hh (j1.extBut s1.extBut (an (by omega))) (l1.extBut s1.extBut (an (by omega))) hx fun g2 e s2 he => ?_)
    obtain ⟨oe, hoe, hce⟩ := he
    have z2 : IsZip g2 (N + 5) (N + 3) (N + 4) .ellipsis := s2 _ _ (an (by omega)) z1
    exact wpAny_setField_rec z2 (by simp) fun g3 _ s3 => hE g3 e (fun d o c1 _ c3 _ _ x => s3.extBut _ _ c1 (s2 _ _ c3 (s1.extBut _ _ c1 x))) ⟨oe, s3.extBut _ _ (off z2 hoe hce) hoe, hce⟩
  | some x =>
    refine wpAny_bind (nextOf_tuple_item (j1.extBut s1.extBut (an (by omega))) (l1.extBut s1.extBut (an (by omega))) hx fun g2 i2 s2 => wpAny_pure ?_)
    have o2 : Is3 g2 (N + 4) p q r := s2.extBut _ _ (an (by omega)) (s1.extBut _ _ (an (by omega)) tO)
    refine wpAny_bind (wpAny_seqItems o2 rfl (wpAny_bind (upd3 o2 fun g3 o3 s3 => ?_)))
    replace o3 : Is3 g3 (N + 4) x q r := o3
    refine wpAny_bind (wpAny_letGo (wpAny_pure ?_))
    refine wpAny_bind (wpAny_bind (wpAny_onRaise ?_))
    show wpAny _ _ (Builtin.SmallTypes.nextOf (.ref (N + 1)) >>= _) _ _ _
    cases hy : ys[k]? with
    | none =>
      refine wpAny_bind (nextOf_tuple_end hh (((j2.extBut s1.extBut (an (by omega))).extBut s2.extBut (an (by omega))).extBut s3.extBut (an (by omega))) (((l2.extBut s1.extBut (an (by omega))).extBut s2.extBut (an (by omega))).extBut s3.extBut (an (by omega))) hy fun g4 e s4 he => ?_)
      obtain ⟨oe, hoe, hce⟩ := he
      have z4 : IsZip g4 (N + 5) (N + 3) (N + 4) .ellipsis := s4 _ _ (an (by omega)) (s3.extBut _ _ (an (by omega)) (s2.extBut _ _ (an (by omega)) z1))
      exact wpAny_setField_rec z4 (by simp) fun g5 _ s5 => hE g5 e (fun d o c1 c2 c3 c4 _ x => s5.extBut _ _ c1 (s4 _ _ c4 (s3.extBut _ _ c2 (s2.extBut _ _ c3 (s1.extBut _ _ c1 x))))) ⟨oe, s5.extBut _ _ (off z4 hoe hce) hoe, hce⟩
    | some y =>
      have hu : zs[k]? = none := by rcases hend with z | z | z; (rw [hx] at z; cases z); (rw [hy] at z; cases z); exact z
      refine wpAny_bind (nextOf_tuple_item (((j2.extBut s1.extBut (an (by omega))).extBut s2.extBut (an (by omega))).extBut s3.extBut (an (by omega))) (((l2.extBut s1.extBut (an (by omega))).extBut s2.extBut (an (by omega))).extBut s3.extBut (an (by omega))) hy fun g4 i4 s4 => wpAny_pure ?_)
      have o4 : Is3 g4 (N + 4) x q r := s4.extBut _ _ (an (by omega)) o3
      refine wpAny_bind (wpAny_seqItems o4 rfl (wpAny_bind (upd3 o4 fun g5 o5 s5 => ?_)))
      refine wpAny_bind (wpAny_letGo (wpAny_pure ?_))
      refine wpAny_bind (wpAny_bind (wpAny_onRaise ?_))
      show wpAny _ _ (Builtin.SmallTypes.nextOf (.ref (N + 2)) >>= _) _ _ _
      refine wpAny_bind (nextOf_tuple_end hh (((((j3.extBut s1.extBut (an (by omega))).extBut s2.extBut (an (by omega))).extBut s3.extBut (an (by omega))).extBut s4.extBut (an (by omega))).extBut s5.extBut (an (by omega))) (((((l3.extBut s1.extBut (an (by omega))).extBut s2.extBut (an (by omega))).extBut s3.extBut (an (by omega))).extBut s4.extBut (an (by omega))).extBut s5.extBut (an (by omega))) hu fun g6 e s6 he => ?_)
      obtain ⟨oe, hoe, hce⟩ := he
      have z6 : IsZip g6 (N + 5) (N + 3) (N + 4) .ellipsis := s6 _ _ (an (by omega)) (s5.extBut _ _ (an (by omega)) (s4.extBut _ _ (an (by omega)) (s3.extBut _ _ (an (by omega)) (s2.extBut _ _ (an (by omega)) z1))))
      exact wpAny_setField_rec z6 (by simp) fun g7 _ s7 => hE g7 e (fun d o c1 c2 c3 c4 c5 x => s7.extBut _ _ c1 (s6 _ _ c5 (s5.extBut _ _ c2 (s4.extBut _ _ c4 (s3.extBut _ _ c2 (s2.extBut _ _ c3 (s1.extBut _ _ c1 x))))))) ⟨oe, s7.extBut _ _ (off z6 hoe hce) hoe, hce⟩
theorem next3_item {Q : Option Value → Shared → Prop} (ha : a < N) (hb : b < N) (hc : c < N) (hz : IsZip s.heap (N + 5) (N + 3) (N + 4) .none) (tI : Is3 s.heap (N + 3) (.ref N) (.ref (N + 1)) (.ref (N + 2))) (tO : Is3 s.heap (N + 4) p q r)
    (j1 : s.heap.IsTupleIter N a k) (j2 : s.heap.IsTupleIter (N + 1) b k) (j3 : s.heap.IsTupleIter (N + 2) c k) (l1 : s.heap.IsTuple a xs) (l2 : s.heap.IsTuple b ys) (l3 : s.heap.IsTuple c zs) (hx : xs[k]? = some x) (hy : ys[k]? = some y) (hu : zs[k]? = some u)
    (hQ : ∀ g, IsZip g (N + 5) (N + 3) (N + 4) (rawInt s.heap.objs.size) → Is3 g (N + 4) x y u → g.IsTupleIter N a (k + 1) → g.IsTupleIter (N + 1) b (k + 1) → g.IsTupleIter (N + 2) c (k + 1) → Is3 g s.heap.objs.size x y u → g.objs.size = s.heap.objs.size + 1 →
      (∀ (d : Addr) o, d ≠ N + 5 → d ≠ N + 4 → d ≠ N → d ≠ N + 1 → d ≠ N + 2 → s.heap.get? d = some o → g.get? d = some o) → Q (some (.ref s.heap.objs.size)) { s with heap := g }) :
    wpAny (model prog w) A (pyNext (.ref (N + 5))) Q E s := by
  have hT : s.TypeIs (.ref (N + 5)) "zip" := ⟨_, hz, rfl⟩
  unfold pyNext
  exact wpAny_bind (wpAny_attempt (wpAny_callSpecial?_slot (name := Str.ofString "__next__") hT F.slot_zip_next (wpAny_call_entry F.slot_zip_next hT F.entry_zip_next
    (zip3_item ha hb hc hz tI tO j1 j2 j3 l1 l2 l3 hx hy hu fun g a1 a2 a3 a4 a5 a6 a7 a8 => wpAny_pure (hQ g a1 a2 a3 a4 a5 a6 a7 a8)) (F.args_zip_next_1 _))))
theorem next3_end {Q : Option Value → Shared → Prop} (hh : A.handled = none) (ha : a < N) (hb : b < N) (hc : c < N) (hz : IsZip s.heap (N + 5) (N + 3) (N + 4) .none) (tI : Is3 s.heap (N + 3) (.ref N) (.ref (N + 1)) (.ref (N + 2))) (tO : Is3 s.heap (N + 4) p q r)
    (j1 : s.heap.IsTupleIter N a k) (j2 : s.heap.IsTupleIter (N + 1) b k) (j3 : s.heap.IsTupleIter (N + 2) c k) (l1 : s.heap.IsTuple a xs) (l2 : s.heap.IsTuple b ys) (l3 : s.heap.IsTuple c zs) (hend : xs[k]? = none ∨ ys[k]? = none ∨ zs[k]? = none)
    (hQ : ∀ g, (∀ (d : Addr) o, d ≠ N + 5 → d ≠ N + 4 → d ≠ N → d ≠ N + 1 → d ≠ N + 2 → s.heap.get? d = some o → g.get? d = some o) → Q none { s with heap := g }) : wpAny (model prog w) A (pyNext (.ref (N + 5))) Q E s := by
  have hT : s.TypeIs (.ref (N + 5)) "zip" := ⟨_, hz, rfl⟩
  unfold pyNext
  refine wpAny_bind (wpAny_attempt (wpAny_callSpecial?_slot (name := Str.ofString "__next__") hT F.slot_zip_next (wpAny_call_entry F.slot_zip_next hT F.entry_zip_next (zip3_end hh ha hb hc hz tI tO j1 j2 j3 l1 l2 l3 hend fun g e hk he => ?_) (F.args_zip_next_1 _))))
  obtain ⟨o, ho, hcl⟩ := he
  exact wpAny_bind (wpAny_isInstance (T := "StopIteration") (b := true) ⟨o, ho, hcl⟩ isSubtype_stop (wpAny_pure (hQ _ hk)))
end
/-! the making of it -/
abbrev zA (h : Heap) (a : Addr) : Heap := h.push { cls := .type "tuple_iterator", data := .fields #[.ref a, .int 0 0] }
abbrev zI (h : Heap) (a b c : Addr) : Heap := (zA (zA (zA h a) b) c).push { cls := .type "tuple", data := .seq #[.ref h.objs.size, .ref (zA h a).objs.size, .ref (zA (zA h a) b).objs.size] }
abbrev zO (h : Heap) (a b c : Addr) : Heap := (zI h a b c).push { cls := .type "tuple", data := .seq #[.none, .none, .none] }
abbrev zZ (h : Heap) (a b c : Addr) : Heap := (zO h a b c).push { cls := .type "zip", data := .fields #[.none, .bool false, .bool false, .ref (zA (zA (zA h a) b) c).objs.size, .ref (zI h a b c).objs.size] }
theorem meets_zip3 (a b c : Addr) (xs ys zs : Array Value) :
    Meets (Builtin.«zip.__new__» ⟨[.type "zip", .ref a, .ref b, .ref c], []⟩) (fun _ R s => s.heap.IsTuple a xs ∧ s.heap.IsTuple b ys ∧ s.heap.IsTuple c zs ∧ R (.ok (.ret (.ref (zO s.heap a b c).objs.size))) { s with heap := zZ s.heap a b c }) :=
  .of_wp fun prog w A R s h => by
    obtain ⟨hp, g, d, tk, os⟩ := s; obtain ⟨m1, m2, m3, h⟩ := h
    have hsub := sub_zip
    have t1 : Heap.IsTuple (Shared.heap ⟨hp, g, d, tk, os⟩) a xs := m1
    have t2 : Heap.IsTuple (Shared.heap ⟨hp.push { cls := .type "tuple_iterator", data := .fields #[.ref a, .int 0 0] }, g, d, tk, os⟩) b ys := Heap.IsTuple.push m2 _
    have t3 : Heap.IsTuple (Shared.heap ⟨(hp.push { cls := .type "tuple_iterator", data := .fields #[.ref a, .int 0 0] }).push { cls := .type "tuple_iterator", data := .fields #[.ref b, .int 0 0] }, g, d, tk, os⟩) c zs := Heap.IsTuple.push (Heap.IsTuple.push m3 _) _
    wp_walk using wpAny_pyIter_tuple t1, wpAny_pyIter_tuple t2, wpAny_pyIter_tuple t3
    exact ⟨_, rfl, h⟩
theorem tc_zip3 (a b c : Value) : checkTypeCall "zip" ⟨[a, b, c], []⟩ = pure () := by kernel_rfl
theorem nc_zip3 (a b c : Value) : checkBuiltinCall "zip.__new__" ⟨[.type "zip", a, b, c], []⟩ = pure () := by kernel_rfl
theorem ai_obj4 (a b c d : Value) : argsOk "object.__init__" ⟨[a, b, c, d], []⟩ := by
  unfold argsOk; rw [signature?_of (id := "object.__init__") (n := ['_', '_', 't', 'i', 'n', 'i', '_', '_']) (o := ['t', 'c', 'e', 'j', 'b', 'o']) (by kernel_rfl) F.owner_object]; kernel_rfl
section
variable {prog : Program} {w : World} {A : Around} {E : Value → Shared → Prop} {s : Shared}
theorem call_zip3 {a b c : Addr} {xs ys zs : Array Value} {Q : Value → Shared → Prop} (m1 : s.heap.IsTuple a xs) (m2 : s.heap.IsTuple b ys) (m3 : s.heap.IsTuple c zs)
    (h : ∀ g (N : Nat), N = s.heap.objs.size → IsZip g (N + 5) (N + 3) (N + 4) .none → Is3 g (N + 3) (.ref N) (.ref (N + 1)) (.ref (N + 2)) → Is3 g (N + 4) .none .none .none → g.IsTupleIter N a 0 → g.IsTupleIter (N + 1) b 0 → g.IsTupleIter (N + 2) c 0 →
      (∀ d o, s.heap.get? d = some o → g.get? d = some o) → Q (.ref (N + 5)) { s with heap := g }) :
    wpAny (model prog w) A (call (.type "zip") [.ref a, .ref b, .ref c]) Q E s := by
  refine callType_new F.called_zip (by decide) (tc_zip3 _ _ _) (nc_zip3 _ _ _) (fun obj => ai_obj4 obj _ _ _) F.entry_zip_new (meets_zip3 a b c xs ys zs) ⟨m1, m2, m3, ?_⟩
  obtain ⟨N, hN⟩ : ∃ N : Nat, N = s.heap.objs.size := ⟨_, rfl⟩
  have z1 : (zA s.heap a).objs.size = N + 1 := by rw [Heap.size_push, ← hN]
  have z2 : (zA (zA s.heap a) b).objs.size = N + 2 := by rw [Heap.size_push, z1]
  have z3 : (zA (zA (zA s.heap a) b) c).objs.size = N + 3 := by rw [Heap.size_push, z2]
  have z4 : (zI s.heap a b c).objs.size = N + 4 := by rw [Heap.size_push, z3]
  have z5 : (zO s.heap a b c).objs.size = N + 5 := by rw [Heap.size_push, z4]
  have up : ∀ {h : Heap} {o p : Obj} {d : Addr}, h.get? d = some o → (h.push p).get? d = some o := fun e => Heap.get?_push_of_some _ e
  have q6 : (zZ s.heap a b c).get? (zO s.heap a b c).objs.size = some _ := Heap.get?_push_size _ rfl
  have q5 : (zZ s.heap a b c).get? (zI s.heap a b c).objs.size = some _ := up (Heap.get?_push_size _ rfl)
  have q4 : (zZ s.heap a b c).get? (zA (zA (zA s.heap a) b) c).objs.size = some _ := up (up (Heap.get?_push_size _ rfl))
  have q3 : (zZ s.heap a b c).get? (zA (zA s.heap a) b).objs.size = some _ := up (up (up (Heap.get?_push_size _ rfl)))
  have q2 : (zZ s.heap a b c).get? (zA s.heap a).objs.size = some _ := up (up (up (up (Heap.get?_push_size _ rfl))))
  have q1 : (zZ s.heap a b c).get? s.heap.objs.size = some _ := up (up (up (up (up (Heap.get?_push_size _ rfl)))))
  show _ ∧ _
  rw [z3, z4, z5] at q6
  rw [z4] at q5
  rw [z1, z2, z3, ← hN] at q4
  rw [z2] at q3
  rw [z1] at q2
  rw [← hN] at q1
  rw [z5]
  exact ⟨⟨_, q6, rfl⟩, h _ N hN q6 q4 q5 ⟨_, q1, rfl, rfl⟩ ⟨_, q2, rfl, rfl⟩ ⟨_, q3, rfl, rfl⟩ fun d o x => up (up (up (up (up (up x)))))⟩
end
/-- the tuples at a, b, c at each turn, the items in new tuples of three -/
def It3 (K : PySem.W.Frag) (a b c : Addr) : It :=
  ⟨fun i H => ∃ (xs ys zs : List V) (x y u : V), SqT K H a xs ∧ SqT K H b ys ∧ SqT K H c zs ∧ xs[i]? = some x ∧ ys[i]? = some y ∧ zs[i]? = some u,
    fun i H v H' => ∃ T x y u, v = .ref T ∧ H T = none ∧ H' = upd H T (.tup [x, y, u]) ∧ (∀ xs, SqT K H a xs → xs[i]? = some x) ∧ (∀ ys, SqT K H b ys → ys[i]? = some y) ∧ ∀ zs, SqT K H c zs → zs[i]? = some u,
    fun i H => ∃ xs ys zs : List V, SqT K H a xs ∧ SqT K H b ys ∧ SqT K H c zs ∧ (xs.length ≤ i ∨ ys.length ≤ i ∨ zs.length ≤ i)⟩
theorem turn3 {P : Program} {w : World} {K : PySem.W.Frag} {elts : List Expr} {kk : Nat} {tpos : Pos} {a b c N : Nat} (ha : a < N) (hb : b < N) (hc : c < N) :
    Turn P w K (.Tuple elts kk tpos) (It3 K a b c) [N + 5, N + 3, N + 4, N, N + 1, N + 2] (N + 5) (fun i h => IsZip h (N + 5) (N + 3) (N + 4) .none ∧ Is3 h (N + 3) (.ref N) (.ref (N + 1)) (.ref (N + 2)) ∧ (∃ x y u, Is3 h (N + 4) x y u) ∧ h.IsTupleIter N a i ∧ h.IsTupleIter (N + 1) b i ∧ h.IsTupleIter (N + 2) c i) where
  mem := by simp
  obj := fun i h st d hd => by
    obtain ⟨hz, tI, ⟨x, y, u, tO⟩, ⟨o1, e1, _, d1⟩, ⟨o2, e2, _, d2⟩, ⟨o3, e3, _, d3⟩⟩ := st
    have e' : d = N + 5 ∨ d = N + 3 ∨ d = N + 4 ∨ d = N ∨ d = N + 1 ∨ d = N + 2 := by simpa using hd
    rcases e' with rfl | rfl | rfl | rfl | rfl | rfl
    · exact ⟨_, hz, fun v q => nomatch q⟩
    · exact ⟨_, tI, fun v q => nomatch q⟩
    · exact ⟨_, tO, fun v q => nomatch q⟩
    · exact ⟨o1, e1, fun v q => by rw [d1] at q; cases q⟩
    · exact ⟨o2, e2, fun v q => by rw [d2] at q; cases q⟩
    · exact ⟨o3, e3, fun v q => by rw [d3] at q; cases q⟩
  keep := fun i h h' st k => by
    obtain ⟨hz, tI, ⟨x, y, u, tO⟩, j1, j2, j3⟩ := st
    exact ⟨k _ (by simp) _ hz, k _ (by simp) _ tI, ⟨x, y, u, k _ (by simp) _ tO⟩, j1.at fun o q => k _ (by simp) o q, j2.at fun o q => k _ (by simp) o q, j3.at fun o q => k _ (by simp) o q⟩
  item := by
    intro X hP hw hK hcm i pins s σ H E I hf st hg
    subst hP hw hK
    obtain ⟨hz, tI, ⟨x0, y0, u0, tO⟩, j1, j2, j3⟩ := st
    obtain ⟨xs, ys, zs, x, y, u, qx, qy, qu, hx, hy, hu⟩ := hg
    obtain ⟨is1, rv1, p1, _⟩ := I.tuple qx
    obtain ⟨is2, rv2, p2, _⟩ := I.tuple qy
    obtain ⟨is3, rv3, p3, _⟩ := I.tuple qu
    obtain ⟨v1, w1, ru1⟩ := rv1.get hx
    obtain ⟨v2, w2, ru2⟩ := rv2.get hy
    obtain ⟨v3, w3, ru3⟩ := rv3.get hu
    have zlt : N + 5 < s.heap.objs.size := Heap.lt_size hz
    refine next3_item ha hb hc hz tI tO j1 j2 j3 p1 p2 p3 (x := v1) (y := v2) (u := v3) (by simpa using w1) (by simpa using w2) (by simpa using w3) fun g z' tO' j1' j2' j3' hT hsz hk => ?_
    refine ⟨_, rfl, wpAny_letOwnedTupleGo_zip (s := { s with heap := g }) z' fun g2 z'' sb => ?_⟩
    have hT2 : g2.get? s.heap.objs.size = some { cls := .type "tuple", data := .seq #[v1, v2, v3] } := (sb.2 _ (Nat.ne_of_gt zlt)).trans hT
    have new : ObjOk X.prog X.w (upd H s.heap.objs.size (.tup [x, y, u])) g2 s.heap.objs.size (.tup [x, y, u]) := ⟨by show 3 ≤ sizeLine; decide, [v1, v2, v3], .cons ru1 (.cons ru2 (.cons ru3 .nil)), ⟨_, hT2, rfl, _, rfl⟩⟩
    have I1 : Inv X pins σ (upd H s.heap.objs.size (.tup [x, y, u])) { s with heap := g2 } :=
      I.turnedNew (t' := s.toks) (ch := [N + 5, N + 3, N + 4, N, N + 1, N + 2]) (fun d o hn q => (sb.2 d (fun q' => hn (by simp [q']))).trans (hk d o (fun q' => hn (by simp [q'])) (fun q' => hn (by simp [q'])) (fun q' => hn (by simp [q'])) (fun q' => hn (by simp [q'])) (fun q' => hn (by simp [q'])) q)) hf (Nat.le_refl _) new
    refine ⟨.ref s.heap.objs.size, _, I1, rfl, ⟨_, x, y, u, rfl, I.hok.fresh (Nat.le_refl _), rfl, fun l hl => by rw [I.tuple_inj hl qx]; exact hx, fun l hl => by rw [I.tuple_inj hl qy]; exact hy, fun l hl => by rw [I.tuple_inj hl qu]; exact hu⟩, ⟨z'', ?_, ⟨v1, v2, v3, ?_⟩, ?_, ?_, ?_⟩, fun d hdm => ?_⟩
    · exact (sb.2 _ (an (by omega))).trans (hk _ _ (an (by omega)) (an (by omega)) (an (by omega)) (an (by omega)) (an (by omega)) tI)
    · exact (sb.2 _ (an (by omega))).trans tO'
    · exact j1'.at fun o q => (sb.2 _ (an (by omega))).trans q
    · exact j2'.at fun o q => (sb.2 _ (an (by omega))).trans q
    · exact j3'.at fun o q => (sb.2 _ (an (by omega))).trans q
    · have hlt : d < s.heap.objs.size := by
        have e' : d = N + 5 ∨ d = N + 3 ∨ d = N + 4 ∨ d = N ∨ d = N + 1 ∨ d = N + 2 := by simpa using hdm
        rcases e' with rfl | rfl | rfl | rfl | rfl | rfl
        · exact zlt
        · exact Heap.lt_size tI
        · exact Heap.lt_size tO
        · obtain ⟨_, e1, _⟩ := j1; exact Heap.lt_size e1
        · obtain ⟨_, e1, _⟩ := j2; exact Heap.lt_size e1
        · obtain ⟨_, e1, _⟩ := j3; exact Heap.lt_size e1
      rw [upd_ne (Nat.ne_of_lt hlt)]
      exact (hf d hdm).1
  done := by
    intro X hP hw hK hcm i pins s σ H E I hf st hg
    subst hP hw hK
    obtain ⟨hz, tI, ⟨x0, y0, u0, tO⟩, j1, j2, j3⟩ := st
    obtain ⟨xs, ys, zs, qx, qy, qu, hend⟩ := hg
    obtain ⟨is1, rv1, p1, _⟩ := I.tuple qx
    obtain ⟨is2, rv2, p2, _⟩ := I.tuple qy
    obtain ⟨is3, rv3, p3, _⟩ := I.tuple qu
    have n1 := rv1.length
    have n2 := rv2.length
    have n3 := rv3.length
    have he : is1.toArray[i]? = none ∨ is2.toArray[i]? = none ∨ is3.toArray[i]? = none := by
      rcases hend with q | q | q
      · exact .inl (by simp; omega)
      · exact .inr (.inl (by simp; omega))
      · exact .inr (.inr (by simp; omega))
    exact next3_end (I.ok.hd hcm) ha hb hc hz tI tO j1 j2 j3 p1 p2 p3 he fun g hk => ⟨rfl, I.turnedL (t' := s.toks) (ch := [N + 5, N + 3, N + 4, N, N + 1, N + 2]) (fun d o hn q =>
      hk d o (fun q' => hn (by simp [q'])) (fun q' => hn (by simp [q'])) (fun q' => hn (by simp [q'])) (fun q' => hn (by simp [q'])) (fun q' => hn (by simp [q'])) q) hf⟩
  self := fun A i s Q E st h => wpAny_pyIter_zip st.1 h
end Pm
namespace Pm
open PySem PySem.Spec PyProof.Rows L2 RZ
def iZip3 (K : PySem.W.Frag) (ta : TA) : TI := fun σ H R => ta σ H fun vs H1 => ∃ a b c xs ys zs, vs = [.ref a, .ref b, .ref c] ∧ SqT K H1 a xs ∧ SqT K H1 b ys ∧ SqT K H1 c zs ∧ R (It3 K a b c) H1
theorem zip3_go {X : Cx} {pins : List (Addr × Obj)} {σ : L2.St} {s1 : Shared} {H1 : Hp} {a b c : Addr} {xs ys zs : List V} {Q : Value → Shared → Prop} {E : Value → Shared → Prop} (I1 : Inv X pins σ H1 s1) (qx : SqT X.K H1 a xs) (qy : SqT X.K H1 b ys) (qu : SqT X.K H1 c zs)
    (hQ : ∀ (g : Heap) (N : Nat), N = s1.heap.objs.size → a < N → b < N → c < N → IsZip g (N + 5) (N + 3) (N + 4) .none → Is3 g (N + 3) (.ref N) (.ref (N + 1)) (.ref (N + 2)) → Is3 g (N + 4) .none .none .none → g.IsTupleIter N a 0 → g.IsTupleIter (N + 1) b 0 → g.IsTupleIter (N + 2) c 0 → Inv X pins σ H1 { s1 with heap := g } →
      (∀ d, d ∈ ([N + 5, N + 3, N + 4, N, N + 1, N + 2] : List Addr) → FpOk X pins H1 d) → Q (.ref (N + 5)) { s1 with heap := g }) : wpAny (model X.prog X.w) X.A (call (.type "zip") [.ref a, .ref b, .ref c]) Q E s1 := by
  obtain ⟨is1, rv1, p1, _⟩ := I1.tuple qx
  obtain ⟨is2, rv2, p2, _⟩ := I1.tuple qy
  obtain ⟨is3, rv3, p3, _⟩ := I1.tuple qu
  obtain ⟨o1, ho1, _⟩ := id p1
  obtain ⟨o2, ho2, _⟩ := id p2
  obtain ⟨o3, ho3, _⟩ := id p3
  refine call_zip3 (show s1.heap.IsTuple a is1.toArray from p1) (show s1.heap.IsTuple b is2.toArray from p2) (show s1.heap.IsTuple c is3.toArray from p3) fun g N hN hz tI tO j1 j2 j3 hk => ?_
  have I2 : Inv X pins σ H1 { s1 with heap := g } := I1.kept (t' := s1.toks) hk
  refine hQ g N hN (by rw [hN]; exact Heap.lt_size ho1) (by rw [hN]; exact Heap.lt_size ho2) (by rw [hN]; exact Heap.lt_size ho3) hz tI tO j1 j2 j3 I2 fun d hd => ?_
  have hle : s1.heap.objs.size ≤ d := by
    rw [← hN]
    rcases List.mem_cons.mp hd with q | hd
    · rw [q]; exact Nat.le_add_right _ _
    rcases List.mem_cons.mp hd with q | hd
    · rw [q]; exact Nat.le_add_right _ _
    rcases List.mem_cons.mp hd with q | hd
    · rw [q]; exact Nat.le_add_right _ _
    rcases List.mem_cons.mp hd with q | hd
    · rw [q]; exact Nat.le_refl _
    rcases List.mem_cons.mp hd with q | hd
    · rw [q]; exact Nat.le_add_right _ _
    rcases List.mem_cons.mp hd with q | hd
    · rw [q]; exact Nat.le_add_right _ _
    cases hd
  exact I1.fpOk hle (I1.hok.fresh hle)
theorem pi_zip3 {X : Cx} {e e2 e3 : Expr} {ta : TA} {p pos tpos : Pos} {elts : List Expr} {kk : Nat} (hg : Gl X "zip") (hm : X.mg "zip" = none) (ha : PA X [e, e2, e3] ta)
    (hs : starEach [e, e2, e3] X.env = (false, eval e X.env) :: starEach [e2, e3] X.env := by rfl) (hpl : (backTo pos (starEach [e2, e3] X.env)).any (·.1) = false := by rfl) :
    PI X (.Tuple elts kk tpos) (.Call (.Name "zip" p) [e, e2, e3] [] pos) (iZip3 X.K ta) := by
  refine ⟨fun pins s σ H R I h => ?_⟩
  refine Call_ (ld_blt I hg hm PyProof.Rows.boot_zip (PyProof.Rows.callWith_type1 (thn (ha.run pos pins s σ H _ I h) fun us s1 ⟨vs, H1, I1, r1, q1⟩ => ?_) hs hpl))
  obtain ⟨a, b, c, xs, ys, zs, ex, qx, qy, qu, q⟩ := q1
  subst ex
  cases r1 with
  | cons ra rr =>
    cases rr with
    | cons rb rr =>
      cases rr with
      | cons rc rr =>
        cases rr
        cases ra
        cases rb
        cases rc
        refine zip3_go I1 qx qy qu fun g N hN h1 h2 h3 hz tI tO j1 j2 j3 I2 fr => wpAny_pyIter_zip hz ?_
        exact ⟨N + 5, [N + 5, N + 3, N + 4, N, N + 1, N + 2], _, _, H1, rfl, I2, turn3 h1 h2 h3, ⟨hz, tI, ⟨_, _, _, tO⟩, j1, j2, j3⟩, fr, q⟩
def zip3L : List D → List D → List D → List D
  | x :: xs, y :: ys, z :: zs => .tup [x, y, z] :: zip3L xs ys zs
  | _, _, _ => []
theorem zip3_get : ∀ {xs ys zs : List D} {i : Nat} {d : D}, (zip3L xs ys zs)[i]? = some d → ∃ x y z, xs[i]? = some x ∧ ys[i]? = some y ∧ zs[i]? = some z ∧ d = .tup [x, y, z]
  | x :: xs, y :: ys, z :: zs, 0, d, h => by simp [zip3L] at h; exact ⟨x, y, z, rfl, rfl, rfl, h.symm⟩
  | x :: xs, y :: ys, z :: zs, i + 1, d, h => by simpa using zip3_get (xs := xs) (ys := ys) (zs := zs) (i := i) (by simpa [zip3L] using h)
  | [], _, _, _, _, h => by simp [zip3L] at h
  | _ :: _, [], _, _, _, h => by simp [zip3L] at h
  | _ :: _, _ :: _, [], _, _, h => by simp [zip3L] at h
theorem zip3_len : ∀ xs ys zs : List D, (zip3L xs ys zs).length = min xs.length (min ys.length zs.length)
  | x :: xs, y :: ys, z :: zs => by simp only [zip3L, List.length_cons, zip3_len xs ys zs]; omega
  | [], _, _ => by simp [zip3L]
  | _ :: _, [], _ => by simp [zip3L]
  | _ :: _, _ :: _, [] => by simp [zip3L]
def fZip3 (g : M (List D)) : M (List D) := g.bind fun l => match l with
  | [.tup x, .tup y, .tup z] => M.pure (zip3L x y z)
  | _ => M.bad
section
variable {K : PySem.W.Frag} {ws : Wa} {B : Addr → Prop} {H : Hp}
theorem dr_three {T : Addr} {x y z : V} {dx dy dz : D} (hT : H T = none) (hb : ∀ a, B a → H a ≠ none) (hx : DR K ws B H x dx) (hy : DR K ws B H y dy) (hz : DR K ws B H z dz) : DR K ws B (upd H T (.tup [x, y, z])) (.ref T) (.tup [dx, dy, dz]) :=
  .tup (by show 3 ≤ sizeLine; decide) (.inl ⟨fun z => hb T z hT, .inl upd_same⟩) (.cons (hx.grow (Grow.new hT)) (.cons (hy.grow (Grow.new hT)) (.cons (hz.grow (Grow.new hT)) .nil)))
theorem jok_zip3 {a b c : Addr} {xs ys zs : List V} {l m n : List D} (hb : ∀ a, B a → H a ≠ none) (h : SqT K H a xs) (r : DRs K ws B H xs l) (h' : SqT K H b ys) (r' : DRs K ws B H ys m) (h'' : SqT K H c zs) (r'' : DRs K ws B H zs n) : JOk K ws B (It3 K a b c) (zip3L l m n) H := fun i => by
  refine ⟨fun d hd => ?_, fun hi => ⟨xs, ys, zs, h, h', h'', ?_⟩⟩
  · obtain ⟨x, y, z, h1, h2, h3, rfl⟩ := zip3_get hd
    obtain ⟨v1, q1, d1⟩ := r.get h1
    obtain ⟨v2, q2, d2⟩ := r'.get h2
    obtain ⟨v3, q3, d3⟩ := r''.get h3
    refine ⟨⟨xs, ys, zs, v1, v2, v3, h, h', h'', q1, q2, q3⟩, fun z H' hy => ?_⟩
    obtain ⟨T, x', y', z', rfl, hT, rfl, f1, f2, f3⟩ := hy
    have e1 := f1 xs h
    have e2 := f2 ys h'
    have e3 := f3 zs h''
    rw [q1] at e1
    rw [q2] at e2
    rw [q3] at e3
    cases e1
    cases e2
    cases e3
    exact ⟨Grow.new hT, dr_three hT hb d1 d2 d3⟩
  · rw [zip3_len] at hi
    rw [r.length, r'.length, r''.length]
    omega
end
theorem mi_zip3 {X : Cx} {Wx : WX} {a b c : Expr} {pos p tpos : Pos} {elts : List Expr} {kk : Nat} {g : An} (hm : X.mg "zip" = none) (ha : PAm X Wx [a, b, c] g) (hg : Gl X "zip" := by rfl)
    (hs : starEach [a, b, c] X.env = (false, eval a X.env) :: starEach [b, c] X.env := by rfl) (hpl : (backTo pos (starEach [b, c] X.env)).any (·.1) = false := by rfl) : PIm X Wx (.Tuple elts kk tpos) (.Call (.Name "zip" p) [a, b, c] [] pos) (fun sl => fZip3 (g sl)) := by
  refine (pi_zip3 hg hm ha hs hpl).mimp fun σ H R ⟨ws, B0, sl, w, e, h⟩ => ?_
  refine ⟨ws, B0, sl, w, e, (runAt.bind h).mono fun ws1 w1 ds H1 l1 e1 h1 vs hv => ?_⟩
  split at h1
  · rename_i x y z
    match vs, hv with
    | _, .cons (.tup z1 t1 r1) (.cons (.tup z2 t2 r2) (.cons (.tup z3 t3 r3) .nil)) =>
      exact ⟨_, _, _, _, _, _, rfl, t1.sq, t2.sq, t3.sq, runAt.here e1 h1 _ (by rw [zip3_len]; omega) fun ws' B' H' hw hk hB hd => jok_zip3 hd (Tp.keep hk hB t1).sq (r1.keep hw hk hB) (Tp.keep hk hB t2).sq (r2.keep hw hk hB) (Tp.keep hk hB t3).sq (r3.keep hw hk hB)⟩
  · exact h1.elim
end Pm
namespace Pm
open PySem PySem.Spec PyProof.Rows L2 RZ
/-! ### d.get(k, e) -/
theorem KR.none {K : PySem.W.Frag} {ws : Wa} {B : Addr → Prop} {H : Hp} {k : Key} : ∀ {kvs : List (Key × V)} {es : List (Key × D)}, KR K ws B H kvs es → valD es k = none → valV kvs k = none
  | [], _, _, _ => rfl
  | _ :: _, [], h, _ => by have := h.1; simp at this
  | p :: kvs, q :: es, h, e => by
    obtain ⟨h1, h2, h3⟩ := h.cons_of
    unfold valD at e
    rw [List.find?_cons] at e
    by_cases z : q.1 = k
    · rw [decide_eq_true z] at e
      cases e
    · rw [decide_eq_false z] at e
      rw [valV_neg (by rw [h1]; exact z)]
      exact KR.none h3 e
def gdD (l : List (Key × D)) (k d : D) : Option D := (keyD k).map fun kk => (valD l kk).getD d
def fDgd (x y z : M D) : M D := x.bind fun a => (M.opt (dkD a)).bind fun l => y.bind fun k => z.bind fun d => M.opt (gdD l k d)
theorem m_dgd {X : Cx} {Wx : WX} {o e d : Expr} {f g h : Dn} {apos cpos : Pos} (hu : X.A.units + 64 < cLine) (ho : PEm X Wx o f) (he : PEm X Wx e g) (hd : PEm X Wx d h) (m : M2 X o "get" apos e d cpos := by first | exact ⟨rfl, rfl, rfl, rfl, rfl⟩ | exact ⟨rfl, rfl, rfl, rfl⟩ | exact ⟨rfl, rfl, rfl⟩) :
    PEm X Wx (.Call (.Attribute o "get" apos) [e, d] [] cpos) (fun sl => fDgd (f sl) (g sl) (h sl)) := by
  refine (pe_dget2 (by omega) ho he hd m).mimp fun σ H Q ⟨ws, B0, sl, w, en, q⟩ => ?_
  refine ⟨ws, B0, sl, w, en, (runAt.bind q).mono fun ws1 w1 a H1 l1 e1 q1 v hv => ?_⟩
  obtain ⟨l, hl, q2⟩ := runAt.opt (runAt.bind q1)
  have q3 := q2 ws1 H1 (Le.refl _ _ _) e1
  cases a <;> first | (cases hl; done) | skip
  cases hl
  cases id hv with
  | @dk ad kvs _ nb hb k1 k2 =>
    refine ⟨ad, rfl, .inl ⟨kvs, .inl hb⟩, ws1, B0, sl, w1, e1, (runAt.bind q3).mono fun ws2 w2 k H2 l2 e2 q4 u hu2 => ?_⟩
    refine ⟨ws2, B0, sl, w2, e2, (runAt.bind q4).mono fun ws3 w3 dd H3 l3 e3 q5 t ht => ?_⟩
    obtain ⟨r, hr, q6⟩ := runAt.opt q5
    unfold gdD at hr
    cases qk : keyD k with
    | none => rw [qk] at hr; cases hr
    | some kk =>
      rw [qk] at hr
      cases hr
      have q6 : runAt X.K X.mg Wx ws3 B0 sl σ H3 (Rs.ok ((valD l kk).getD dd) w3) _ := q6
      have hky : rdb k = true := by cases k <;> first | rfl | cases qk
      have := key_of' qk (e3.rv (.inr (hu2.le l3)) hky)
      subst this
      have hv3 := (hv.le l2).le l3
      cases hv3 with
      | @dk _ kvs3 _ nb3 hb3 k13 k23 =>
        have kr : KR X.K ws3 (Bad ws3 B0 sl σ) H3 kvs3 l := ⟨k13, k23⟩
        refine ⟨valV kvs3 kk, .k hb3, ?_⟩
        cases qv : valD l kk with
        | none =>
          rw [kr.none qv]
          rw [qv] at q6
          exact runAt.here e3 q6 t ht
        | some y =>
          obtain ⟨v', z1, z2⟩ := kr.val qv
          rw [z1]
          rw [qv] at q6
          exact runAt.here e3 q6 v' z2
end Pm
namespace Pm
open PySem PySem.Spec PyProof.Rows L2 RZ
/-! ### a, b = x, y where a name is captured: a tuple is made and taken apart -/
section
variable {X : Cx} {Wx : WX} {h : Hk} {a b c : Expr} {x y z : Str} {i j l : Nat} {px py pz pt pos : Pos} {kt k2 : Nat} {pt2 : Pos}
def tParL (is : List Nat) (ta : TA) : TS := fun D σ H => ta σ H fun vs H1 => vs.length = is.length ∧ D.nx (setV is vs σ) H1
theorem ps_parL {es vals : List Expr} {is : List Nat} {ta : TA} {t : TGs} (hc : X.calm = true) (hg : PGs X es t) (hgo : ∀ vs σ H Q, vs.length = is.length → Q (setV is vs σ) H → t vs σ H Q) (ha : PA X vals ta) (hlen : (assignEach es X.env).length = is.length) (hz : is.length ≤ 1000)
    (hst : (assignEach es X.env).findIdx? (·.1) = none) (hs : swapsWithSole [.Tuple es kt pt] (.Tuple vals k2 pt2) pos.line X.env = pure false) (hw : swappedStores [.Tuple es kt pt] (.Tuple vals k2 pt2) X.env = pure none)
    (h1 : (assignEach [.Tuple es kt pt] X.env).map (·.2) = [assign (.Tuple es kt pt) X.env]) : PS X (.Assign [.Tuple es kt pt] (.Tuple vals k2 pt2) pos) (tParL is ta) := by
  refine ⟨fun pins s σ H D I q => ?_⟩
  refine wpAny_Assign_stores (Tuple_ (thn (ha.run _ pins s σ H _ I q) fun us s1 ⟨vs, H1, I1, r1, hl, q1⟩ => ?_)) hs hw
  have hul : us.length = is.length := by rw [← hl]; exact r1.length.symm
  refine wpAny_newObj_type ?_ (by show us.toArray.size ≤ sizeLine; rw [List.size_toArray, hul]; exact Nat.le_trans hz (by decide))
  have I2 : Inv X pins σ H1 { s1 with heap := s1.heap.push { cls := .type "tuple", data := .seq us.toArray } } := I1.kept (t' := s1.toks) fun b o e => Heap.get?_push_of_some _ e
  rw [h1]
  refine thn (assign_Tuple_tuple (Q := fun _ s' => ∃ σ' H', Inv X pins σ' H' s' ∧ D.nx σ' H') (I.ok.hd hc) (IsTup.new s1.heap _) (by rw [hlen, List.size_toArray, hul]) hst fun g hx => ?_) fun _ s2 q => q
  have I3 := I2.kept (h' := g) (t' := s1.toks) fun b o e => hx b o (Nat.ne_of_lt (Heap.lt_size e)) e
  exact hg.run pins _ σ H1 vs us D.nx I3 r1 (hgo vs σ H1 D.nx hl q1)
theorem ms_par2C (hN : X.N.Nodup) (hi : X.N[i]? = some x) (hj : X.N[j]? = some y) (ha : PHm X Wx [a, b] h) (hn : CntH 2 h)
    (hx : Loc X.env.scope x := by first | exact Or.inl rfl | exact Or.inr rfl) (hy : Loc X.env.scope y := by first | exact Or.inl rfl | exact Or.inr rfl)
    (fx : X.fn x = true ∨ X.env.scope.names.lookup x = some .local := by first | exact .inl rfl | exact .inr rfl) (fy : X.fn y = true ∨ X.env.scope.names.lookup y = some .local := by first | exact .inl rfl | exact .inr rfl)
    (hw : swappedStores [.Tuple [.Name x px, .Name y py] kt pt] (.Tuple [a, b] k2 pt2) X.env = pure none := by rfl)
    (hs : swapsWithSole [.Tuple [.Name x px, .Name y py] kt pt] (.Tuple [a, b] k2 pt2) pos.line X.env = pure false := by rfl) (hc : X.calm = true := by rfl)
    (hlen : (assignEach [.Name x px, .Name y py] X.env).length = 2 := by rfl) (hst : (assignEach [.Name x px, .Name y py] X.env).findIdx? (·.1) = none := by rfl) (h1 : (assignEach [.Tuple [.Name x px, .Name y py] kt pt] X.env).map (·.2) = [assign (.Tuple [.Name x px, .Name y py] kt pt) X.env] := by rfl)
    (g1 : (assignEach [.Name x px, .Name y py] X.env).map (·.2) = assign (.Name x px) X.env :: (assignEach [.Name y py] X.env).map (·.2) := by rfl) (g2 : (assignEach [.Name y py] X.env).map (·.2) = assign (.Name y py) X.env :: (assignEach [] X.env).map (·.2) := by rfl) :
    PSm X Wx (.Assign [.Tuple [.Name x px, .Name y py] kt pt] (.Tuple [a, b] k2 pt2) pos) (fun nx _ _ sl => h sl fun xs => nx (puts [i, j] xs sl)) := by
  refine (ps_parL (is := [i, j]) hc (pgs_cons (pg_name hN hi hx fx) (pgs_cons (pg_name hN hj hy fy) pgs_nil g2) g1) (fun vs σ H Q hl q => ?_) ha hlen (by simp) hst hs hw h1).mimp fun D0 σ H q => ?_
  · match vs, hl with
    | [v, w], _ => first | exact q | exact ⟨_, _, rfl, _, _, rfl, rfl, q⟩ | exact ⟨_, _, rfl, _, _, rfl, q⟩
  · exact par_go (is := [i, j]) hn D0 σ H q
theorem ms_par3C (hN : X.N.Nodup) (hi : X.N[i]? = some x) (hj : X.N[j]? = some y) (hk : X.N[l]? = some z) (ha : PHm X Wx [a, b, c] h) (hn : CntH 3 h)
    (hx : Loc X.env.scope x := by first | exact Or.inl rfl | exact Or.inr rfl) (hy : Loc X.env.scope y := by first | exact Or.inl rfl | exact Or.inr rfl) (hz : Loc X.env.scope z := by first | exact Or.inl rfl | exact Or.inr rfl)
    (fx : X.fn x = true ∨ X.env.scope.names.lookup x = some .local := by first | exact .inl rfl | exact .inr rfl) (fy : X.fn y = true ∨ X.env.scope.names.lookup y = some .local := by first | exact .inl rfl | exact .inr rfl) (fz : X.fn z = true ∨ X.env.scope.names.lookup z = some .local := by first | exact .inl rfl | exact .inr rfl)
    (hw : swappedStores [.Tuple [.Name x px, .Name y py, .Name z pz] kt pt] (.Tuple [a, b, c] k2 pt2) X.env = pure none := by rfl)
    (hs : swapsWithSole [.Tuple [.Name x px, .Name y py, .Name z pz] kt pt] (.Tuple [a, b, c] k2 pt2) pos.line X.env = pure false := by rfl) (hc : X.calm = true := by rfl)
    (hlen : (assignEach [.Name x px, .Name y py, .Name z pz] X.env).length = 3 := by rfl) (hst : (assignEach [.Name x px, .Name y py, .Name z pz] X.env).findIdx? (·.1) = none := by rfl) (h1 : (assignEach [.Tuple [.Name x px, .Name y py, .Name z pz] kt pt] X.env).map (·.2) = [assign (.Tuple [.Name x px, .Name y py, .Name z pz] kt pt) X.env] := by rfl)
    (g1 : (assignEach [.Name x px, .Name y py, .Name z pz] X.env).map (·.2) = assign (.Name x px) X.env :: (assignEach [.Name y py, .Name z pz] X.env).map (·.2) := by rfl) (g2 : (assignEach [.Name y py, .Name z pz] X.env).map (·.2) = assign (.Name y py) X.env :: (assignEach [.Name z pz] X.env).map (·.2) := by rfl) (g3 : (assignEach [.Name z pz] X.env).map (·.2) = assign (.Name z pz) X.env :: (assignEach [] X.env).map (·.2) := by rfl) :
    PSm X Wx (.Assign [.Tuple [.Name x px, .Name y py, .Name z pz] kt pt] (.Tuple [a, b, c] k2 pt2) pos) (fun nx _ _ sl => h sl fun xs => nx (puts [i, j, l] xs sl)) := by
  refine (ps_parL (is := [i, j, l]) hc (pgs_cons (pg_name hN hi hx fx) (pgs_cons (pg_name hN hj hy fy) (pgs_cons (pg_name hN hk hz fz) pgs_nil g3) g2) g1) (fun vs σ H Q hl q => ?_) ha hlen (by simp) hst hs hw h1).mimp fun D0 σ H q => ?_
  · match vs, hl with
    | [u, v, w], _ => first | exact q | exact ⟨_, _, rfl, _, _, rfl, _, _, rfl, rfl, q⟩ | exact ⟨_, _, rfl, _, _, rfl, _, _, rfl, q⟩
  · exact par_go (is := [i, j, l]) hn D0 σ H q
end
end Pm
namespace Pm
open PySem PySem.Spec PyProof.Rows L2 RZ
/-! ### try with several clauses, each of them sets the same slot -/
def catchM {α : Type} (kh : D → M α) (c : Str) : List (List (Str × Bool) × M D) → M α
  | [] => M.raise c
  | (T, mh) :: r => match T.lookup c with
    | some true => (noEx mh).bind kh
    | some false => catchM kh c r
    | none => M.bad
def fTryM {α : Type} (cl : List (List (Str × Bool) × M D)) (m : M D) (k : D → M α) (kh : D → M α) : M α := fun w => match m w with
  | .ok a w' => k a w'
  | .ex c w' => catchM kh c cl w'
  | .bad => .bad
inductive MHd (X : Cx) (j : Nat) : List ExceptHandler → List (List (Str × Bool) × Dn) → Prop
  | nil : MHd X j [] []
  | cons {x : Str} {T : List (Str × Bool)} {mh : Dn} {b₀ : Stmt} {np pos' : Pos} {hds : List ExceptHandler} {cl : List (List (Str × Bool) × Dn)} (cx : Xk X.K X.mg x) (hg : Gl X x) (hdb : (x == ("__debug__" : Str)) = false) (hT : ∀ y k, T.lookup y = some k → Xm X.K X.mg x y k)
      (hsu : ∀ (a : Addr) (oe : Obj) (pn : List (Addr × Obj)), PB1 (X.suite a ((a, oe) :: pn)) W0 j [b₀] mh) (r : MHd X j hds cl) : MHd X j (.ExceptHandler (some (.Name x np)) none [b₀] pos' :: hds) ((T, mh) :: cl)
theorem mhd_cons {X : Cx} {j : Nat} {x : Str} {T : List (Str × Bool)} {mh : Dn} {b₀ : Stmt} {np pos' : Pos} {hds : List ExceptHandler} {cl : List (List (Str × Bool) × Dn)} (cx : Xk X.K X.mg x) (hT : ∀ y k, T.lookup y = some k → Xm X.K X.mg x y k)
      (hsu : ∀ (a : Addr) (oe : Obj) (pn : List (Addr × Obj)), PB1 (X.suite a ((a, oe) :: pn)) W0 j [b₀] mh) (r : MHd X j hds cl) (hg : Gl X x := by rfl) (hdb : (x == ("__debug__" : Str)) = false := by decide) : MHd X j (.ExceptHandler (some (.Name x np)) none [b₀] pos' :: hds) ((T, mh) :: cl) := .cons cx hg hdb hT hsu r
theorem mhd_go {X : Cx} {Wx : WX} {j : Nat} {hds : List ExceptHandler} {cl : List (List (Str × Bool) × Dn)} (h : MHd X j hds cl) : ∃ l, HdsOk X hds l ∧ ∀ {ws : Wa} {B0 : Addr → Prop} {sl : Ls} {w : W} {σ : L2.St} {H : Hp} {nx bk ct : Kn} {D0 : Ends} {c : Str} {C : Addr}, X.mg c = some (.ref C) → Env X.K ws B0 sl w σ H →
    Ans X.K X.mg Wx ws B0 sl σ H (catchM (fun d => nx (sl.set j (.va d))) c (cl.map fun p => (p.1, p.2 sl)) w) nx bk ct D0 → wMany X.K Wx D0 l (.ref C) none σ H := by
  induction h with
  | nil => exact ⟨[], .nil, fun {ws B0 sl w σ H nx bk ct D0 c C} hC e q => q.ex c w rfl σ ws sl H C hC (Le.refl _ _ _) e⟩
  | @cons x T mh b₀ np pos' hds cl cx hg hdb hT hsu r ih =>
    obtain ⟨l, h1, h2⟩ := ih
    obtain ⟨C0, hx, _⟩ := cx
    refine ⟨(.ref C0, fun _ _ _ => tB1 X.K X.mg j mh W0) :: l, .cons ⟨hg, hdb, .inl hx⟩ (fun a oe cls d pn _ _ => hsu a oe pn) h1, fun {ws B0 sl w σ H nx bk ct D0 c C} hC e q => ?_⟩
    rw [List.map_cons] at q
    unfold catchM at q
    cases qT : T.lookup c with
    | none => rw [qT] at q; exact absurd rfl q.nb
    | some k =>
      rw [qT] at q
      obtain ⟨C1, E1, g1, g2, g3⟩ := hT c k qT
      rw [hx] at g1
      cases g1
      rw [hC] at g2
      cases g2
      refine ⟨k, g3, fun hk a _ => ?_, fun hk => ?_⟩
      · subst hk
        refine ⟨ws, B0, sl, w, e, (noEx_run q).mono fun ws2 w2 d H2 l2 e2 h2 v hv => ?_⟩
        obtain ⟨l3, e3⟩ := e2.put (i := j) hv
        exact h2.nx _ _ _ _ _ l3 e3 rfl
      · subst hk
        exact h2 hC e q
theorem ms_tryM {X : Cx} {Wx : WX} {i j : Nat} {m : Dn} {body : List Stmt} {h₀ : ExceptHandler} {hds : List ExceptHandler} {cl : List (List (Str × Bool) × Dn)} {pos : Pos} (h : MHd X j (h₀ :: hds) cl) (tk : Takes X Wx)
    (hb : ∀ (W : WX) (pn : List (Addr × Obj)) (xe : Value → Shared → Prop), Takes (X.tr pn xe) W → PassesOwn (model X.prog X.w) X.A X.env xe → PB1 (X.tr pn xe) W i body m)
    (hs : X.stack = X.env :: X.outer := by rfl) (hf : X.env.frame = some X.env.locals := by rfl) :
    PSm X Wx (.Try body (h₀ :: hds) [] [] pos) (fun nx _ _ sl => fTryM (cl.map fun p => (p.1, p.2 sl)) (m sl) (fun d => nx (sl.set i (.va d))) (fun d => nx (sl.set j (.va d)))) := by
  obtain ⟨l, h1, h2⟩ := mhd_go (Wx := Wx) h
  refine (ps_try_many (Wout := Wx) hs hf tk (tb := fun W => tB1 X.K X.mg i m W) hb h1).mimp fun D0 σ H ⟨ws, B0, sl, w, nx, bk, ct, e, q⟩ => ?_
  refine ⟨ws, B0, sl, w, e, ?_⟩
  have q : Ans X.K X.mg Wx ws B0 sl σ H (fTryM (cl.map fun p => (p.1, p.2 sl)) (m sl) (fun d => nx (sl.set i (.va d))) (fun d => nx (sl.set j (.va d))) w) nx bk ct D0 := q
  unfold fTryM at q
  cases qm : m sl w with
  | bad => rw [qm] at q; exact absurd rfl q.nb
  | ok d w1 =>
    rw [qm] at q
    intro ws1 H1 l1 e1 v hv
    obtain ⟨l2, e2⟩ := e1.put (i := i) hv
    exact q.nx _ _ _ _ _ (l1.trans l2) e2 rfl
  | ex c w1 =>
    rw [qm] at q
    intro ws' H' C hC l' e'
    exact h2 hC e' (q.le l')
end Pm
namespace Pm
open PySem PySem.Spec PyProof.Rows L2

/-! ### cells: hidden, shown -/
section
open Classical
noncomputable def hid (H : Hp) (S : Addr → Prop) : Hp := fun a => if S a then none else H a
/-- H, but on S as H0 has it -/
noncomputable def shw (H : Hp) (S : Addr → Prop) (H0 : Hp) : Hp := fun a => if S a then H0 a else H a
end
def knw (h : Heap) : Hp := fun a => match h.get? a with
  | some o => some (.frz o (AnyO a))
  | none => none
section
variable {H H' H0 : Hp} {S : Addr → Prop} {a : Addr} {h h' : Heap} {P : Program} {w : World} {fs : List Addr}
theorem hid_in (q : S a) : hid H S a = none := if_pos q
theorem hid_out (q : ¬ S a) : hid H S a = H a := if_neg q
theorem shw_in (q : S a) : shw H S H0 a = H0 a := if_pos q
theorem shw_out (q : ¬ S a) : shw H S H0 a = H a := if_neg q
theorem knw_at {o : Obj} (e : h.get? a = some o) : knw h a = some (.frz o (AnyO a)) := by unfold knw; rw [e]
theorem frz_ok {o : Obj} (e : h.get? a = some o) : ObjOk P w H h a (.frz o (AnyO a)) := ⟨e, ⟨o, e⟩, ⟨o, e⟩, fun h1 h2 ⟨o, q⟩ st => ⟨o, st o q⟩⟩
/-- the callee ran with S hidden -/
theorem un_hide (hS : ∀ a, S a → ∃ o, H a = some (.frz o (AnyO a))) (hok : HOk P w H h) (u : Un fs [] (hid H S) H' h h') (hok' : HOk P w H' h') (nfs : ∀ a, S a → a ∉ fs) : Un fs [] H (shw H' S H) h h' ∧ HOk P w (shw H' S H) h' ∧ ∀ a, S a → H' a = none := by
  have get : ∀ a, S a → ∃ o, H a = some (.frz o (AnyO a)) ∧ h.get? a = some o := fun a q => by
    obtain ⟨o, e⟩ := hS a q
    exact ⟨o, e, (hok a _ e).1⟩
  have gone : ∀ a, S a → H' a = none := fun a q => by
    obtain ⟨o, _, e⟩ := get a q
    exact u.free a o e (hid_in q) (by simp)
  have nS : ∀ {b : Addr}, H b = none → ¬ S b := fun {b} n q => by
    obtain ⟨o, e, _⟩ := get b q
    rw [n] at e; cases e
  refine ⟨⟨fun b o e n hb hx => u.keep b o e (by rw [hid_out (nS n)]; exact n) hb hx, fun b o e n hb hx => u.slot b o e (by rw [hid_out (nS n)]; exact n) hb hx, fun b o e n hx => ?_, u.there, fun b xs e => ?_, fun b o v e => ?_, fun b ps e => ?_⟩, fun b o e => ?_, gone⟩
  · rw [shw_out (nS n)]
    exact u.free b o e (by rw [hid_out (nS n)]; exact n) hx
  · have q : ¬ S b := fun q => by obtain ⟨o, z, _⟩ := get b q; rw [e] at z; cases z
    rw [shw_out q]
    exact u.tups b xs (by rw [hid_out q]; exact e)
  · by_cases q : S b
    · rw [shw_in q]; exact e
    · rw [shw_out q]; exact u.frzs b o v (by rw [hid_out q]; exact e)
  · have q : ¬ S b := fun q => by obtain ⟨o, z, _⟩ := get b q; rw [e] at z; cases z
    rw [shw_out q]
    exact u.tbls b ps (by rw [hid_out q]; exact e)
  · by_cases q : S b
    · obtain ⟨o1, z1, z2⟩ := get b q
      rw [shw_in q, z1] at e
      cases e
      exact frz_ok (u.keep b o1 z2 (hid_in q) (nfs b q) (by simp))
    · rw [shw_out q] at e
      refine (hok' b o e).stay (fun c v _ z => z) (fun c z => ?_) fun c xs z => ?_
      · rw [shw_out (fun y => by rw [gone c y] at z; cases z)]; exact z
      · rw [shw_out (fun y => by rw [gone c y] at z; cases z)]; exact z
theorem hid_ok (hS : ∀ a, S a → ∃ o, H a = some (.frz o (AnyO a))) (hok : HOk P w H h) : HOk P w (hid H S) h := fun b o e => by
  by_cases q : S b
  · rw [hid_in q] at e; cases e
  · rw [hid_out q] at e
    refine (hok b o e).stay (fun c v _ z => z) (fun c z => ?_) fun c xs z => ?_
    · rw [hid_out (fun y => by obtain ⟨o, z1⟩ := hS c y; rw [z1] at z; cases z)]; exact z
    · rw [hid_out (fun y => by obtain ⟨o, z1⟩ := hS c y; rw [z1] at z; cases z)]; exact z
theorem shw_ok (hS : ∀ a, S a → H a = none ∧ ∃ o, h.get? a = some o) (hok : HOk P w H h) : HOk P w (shw H S (knw h)) h := fun b o e => by
  by_cases q : S b
  · obtain ⟨_, o1, z⟩ := hS b q
    rw [shw_in q, knw_at z] at e
    cases e
    exact frz_ok z
  · rw [shw_out q] at e
    refine (hok b o e).stay (fun c v _ z => z) (fun c z => ?_) fun c xs z => ?_
    · rw [shw_out (fun y => by rw [(hS c y).1] at z; cases z)]; exact z
    · rw [shw_out (fun y => by rw [(hS c y).1] at z; cases z)]; exact z
theorem shw_grow (hS : ∀ a, S a → H a = none) : Grow H (shw H S H0) := fun a o e => by
  rw [shw_out (fun q => by rw [hS a q] at e; cases e)]; exact e
/-- the callee ran with S shown -/
theorem un_show (hS : ∀ a, S a → H a = none ∧ ∃ o, h.get? a = some o) (u : Un fs [] (shw H S (knw h)) H' h h') (hok' : HOk P w H' h') : Un fs [] H (hid H' S) h h' ∧ HOk P w (hid H' S) h' ∧ ∀ a, S a → ∃ o, H' a = some (.frz o (AnyO a)) := by
  have get : ∀ a, S a → ∃ o, h.get? a = some o ∧ H' a = some (.frz o (AnyO a)) ∧ h'.get? a = some o := fun a q => by
    obtain ⟨_, o, e⟩ := hS a q
    have z := u.frzs a o _ (by rw [shw_in q]; exact knw_at e)
    exact ⟨o, e, z, (hok' a _ z).1⟩
  have nS : ∀ {b : Addr} {o : HO}, H b = some o → ¬ S b := fun {b o} e q => by rw [(hS b q).1] at e; cases e
  refine ⟨⟨fun b o e n hb hx => ?_, fun b o e n hb hx => ?_, fun b o e n hx => ?_, u.there, fun b xs e => ?_, fun b o v e => ?_, fun b ps e => ?_⟩, hid_ok (fun a q => let ⟨o, _, z, _⟩ := get a q; ⟨o, z⟩) hok', fun a q => let ⟨o, _, z, _⟩ := get a q; ⟨o, z⟩⟩
  · by_cases q : S b
    · obtain ⟨o1, z1, _, z3⟩ := get b q
      rw [e] at z1; cases z1
      exact z3
    · exact u.keep b o e (by rw [shw_out q]; exact n) hb hx
  · by_cases q : S b
    · obtain ⟨o1, z1, _, z3⟩ := get b q
      rw [e] at z1; cases z1
      exact ⟨o.slots, z3⟩
    · exact u.slot b o e (by rw [shw_out q]; exact n) hb hx
  · by_cases q : S b
    · exact hid_in q
    · rw [hid_out q]; exact u.free b o e (by rw [shw_out q]; exact n) hx
  · rw [hid_out (nS e)]; exact u.tups b xs (by rw [shw_out (nS e)]; exact e)
  · rw [hid_out (nS e)]; exact u.frzs b o v (by rw [shw_out (nS e)]; exact e)
  · rw [hid_out (nS e)]; exact u.tbls b ps (by rw [shw_out (nS e)]; exact e)
end
/-! ### plain data stays -/
section
variable {K : PySem.W.Frag} {ws ws' : Wa} {B B' : Addr → Prop} {H H' : Hp}
theorem okd_keepAll {n : Nat} (ih : ∀ v d, okd n d = true → DR K ws B H v d → DR K ws' B' H' v d) : ∀ {vs : List V} {ds : List D}, DRs K ws B H vs ds → ds.all (okd n) = true → DRs K ws' B' H' vs ds
  | _, _, .nil, _ => .nil
  | _, _, .cons h r, q => by
    simp only [List.all_cons, Bool.and_eq_true] at q
    exact .cons (ih _ _ q.1 h) (okd_keepAll ih r q.2)
theorem okd_keep (ht : ∀ a u, Rd H a (.tup u) → ¬ B a → Rd H' a (.tup u)) (hl : ∀ a u, H a = some (.lst u) → ¬ B a → H' a = some (.lst u)) (hb : ∀ a, H a ≠ none → B' a → B a) : ∀ (n : Nat) (v : V) (d : D), okd n d = true → DR K ws B H v d → DR K ws' B' H' v d := by
  intro n
  induction n with
  | zero => intro v d h r; cases r <;> first | exact .non | exact .bl _ | exact .int _ | exact .str _ | (simp [okd] at h; done)
  | succ n ih =>
    intro v d h r
    cases r with
    | non => exact .non
    | bl b => exact .bl b
    | int i => exact .int i
    | str x => exact .str x
    | tup z t r =>
      refine .tup z ?_ (okd_keepAll ih r h)
      rcases t with ⟨n1, t⟩ | t
      · exact .inl ⟨fun q => n1 (hb _ (rd_some t) q), ht _ _ t n1⟩
      · exact .inr t
    | lst z n1 t r => exact .lst z (fun q => n1 (hb _ (sm t) q)) (hl _ _ t n1) (okd_keepAll ih r h)
    | scr => simp [okd] at h
    | dk => simp [okd] at h
    | dt => simp [okd] at h
    | town => simp [okd] at h
    | obj => simp [okd] at h
    | fn => simp [okd] at h
theorem okds_keep (ht : ∀ a u, Rd H a (.tup u) → ¬ B a → Rd H' a (.tup u)) (hl : ∀ a u, H a = some (.lst u) → ¬ B a → H' a = some (.lst u)) (hb : ∀ a, H a ≠ none → B' a → B a) (n : Nat) {vs : List V} {ds : List D} (r : DRs K ws B H vs ds) (h : ds.all (okd n) = true) : DRs K ws' B' H' vs ds := okd_keepAll (okd_keep ht hl hb n) r h
end
end Pm
namespace Pm
open PySem PySem.Spec PyProof.Rows L2

/-! ### what an inner function promises -/
abbrev LT.nf (T : LT) (cl : List (Str × Addr)) (c : Addr) : NdefX.NF := ⟨T.name, T.qual, T.params, [], T.scope, cl, c⟩
abbrev LT.fd (T : LT) (cl : List (Str × Addr)) (c : Addr) (doc pm ctv : Value) : FuncData :=
  { name := T.name, qualname := T.qual, params := T.params, body := T.body, scope := T.scope, globals := mainGlobals, closure := cl, defaults := .none, kwdefaults := .none, doc := doc, pyModule := pm, annotations := none, code := .ref c, closureTuple := ctv, builtins := builtinsNs }
/-- called with its cells hidden: m of what they hold and of the arguments -/
def LamOk (P : Program) (w : World) (K : PySem.W.Frag) (mg : Str → Option Value) (base : Heap) (k : Nat) (T : LT) (m : List D → Mf) : Prop :=
  ∀ (A : Around) (outer : List PySem.Env) (s : Shared) (H : Hp) (us : List Value) (vs cvs : List V) (f c : Addr) (cl : List (Str × Addr)) (ds as : List D) (ws : Wa) (B0 : Addr → Prop) (w0 w1 : W) (d : D),
    Room k A → Env0 P w K mg base A outer s H → H f = some (LamO f T cl c) → H c = some (LamX.CodeO c T.qual) → NdefX.CellsAt cl T.fr (cvs.map some) s.heap H → Vals vs us → vs.length = T.ps.length →
    WR K ws w0 H → BX ws B0 H → (∀ a, B0 a → H a ≠ none) → DRs K ws (fun a => ws.has a ∨ B0 a) H cvs ds → DRs K ws (fun a => ws.has a ∨ B0 a) H vs as → m ds as w0 = .ok d w1 →
    codeAny (model P w) A (.call (.ref f) ⟨us, []⟩) (CR (L2.CX P w) outer P w H s (fun v H' => ∃ ws', Post ws H ws' H' ∧ WR K ws' w1 H' ∧ DR K ws' (fun a => ws'.has a ∨ B0 a) H' v d) (fun _ _ _ => False)) s
abbrev lcx (P : Program) (w : World) (K : PySem.W.Frag) (mg : Str → Option Value) (base : Heap) (N : List Str) (T : LT) (cl : List (Str × Addr)) (c f : Addr) (A : Around) (outer : List PySem.Env) (s : Shared) (H : Hp) : Cx :=
  NdefX.ncx (L2.CX P w) P w K mg base N (T.nf cl c) f A outer s H (fun _ _ _ => False)
section
variable {P : Program} {w : World} {K : PySem.W.Frag} {mg : Str → Option Value} {base : Heap}
theorem LamOk.mono {j k : Nat} {T : LT} {m : List D → Mf} (h : LamOk P w K mg base j T m) (l : j ≤ k) : LamOk P w K mg base k T m := fun A outer s H us vs cvs f c cl ds as ws B0 w0 w1 d hr => h A outer s H us vs cvs f c cl ds as ws B0 w0 w1 d (hr.mono l)
theorem lamOk_bad {k : Nat} {T : LT} : LamOk P w K mg base k T (fun _ _ => M.bad) := fun _ _ _ _ _ _ _ _ _ _ _ _ _ _ _ _ _ _ _ _ _ _ _ _ _ _ _ _ _ z => by cases z
theorem startF_eq (N : List Str) (vs cvs : List V) : NdefX.startF N vs (cvs.map some) = L2.start N (vs ++ cvs) := by
  unfold NdefX.startF L2.start
  rw [List.map_append, List.append_assoc, List.length_map, List.length_append, Nat.sub_sub]
theorem lamO_at {H : Hp} {h : Heap} {f c : Addr} {T : LT} {cl : List (Str × Addr)} (hok : HOk P w H h) (e : H f = some (LamO f T cl c)) : ∃ (od : Option Addr) (sl : Array (Option Value)) (doc pm ctv : Value), h.get? f = some (⟨.type "function", od, .func (T.fd cl c doc pm ctv), sl⟩ : Obj) := by
  obtain ⟨z, _, _⟩ := hok f _ e
  exact z
theorem lamOk_of {N : List Str} {T : LT} {body : Expr} {m : List D → Mf} {k : Nat} (hx : T.body = .expr body) (S : NdefX.NScope N T.ps T.fr T.scope)
    (hbind : ∀ (cl : List (Str × Addr)) (c : Addr) (doc pm ctv : Value) (us : List Value), us.length = T.ps.length → bindArgs (T.fd cl c doc pm ctv) ⟨us, []⟩ = pure (T.ps.zip us))
    (hbody : ∀ (f c : Addr) (cl : List (Str × Addr)) (A : Around) (outer : List PySem.Env) (s : Shared) (H : Hp), Room k (A.deeper (NdefX.envF (T.nf cl c) f s.heap.objs.size)) →
      ∃ b : Dn, PEm (lcx P w K mg base N T cl c f A outer s H) W0 body b ∧ ∀ ds as : List D, as.length = T.ps.length → ds.length = T.fr.length → b (slStart N.length (as ++ ds)) = m ds as) : LamOk P w K mg base (k + 1) T m := by
  intro A outer s H us vs cvs f c cl ds as ws B0 w0 w1 d hr e0 hf hc C r hl hw hbx hd rc ra hm
  have lim : s.heap.NoLimit := e0.mod.nolimit.keeps fun b o e => (e0.bs b o e).1
  obtain ⟨od, sl, doc, pm, ctv, ho⟩ := lamO_at e0.hok hf
  refine PySem.W.kla_callFunE hr.depth ho rfl S.co S.gen hx (NdefX.codeO_at e0.hok hc) ?_
  rw [hbind cl c doc pm ctv us (by rw [← r.length]; exact hl)]
  refine wpAny_pure (wpAny_newFunctionEnv S.nocell (fun ⟨n, _⟩ hy => S.par n (List.of_mem_zip hy).1) (fun h₁ hns hsb => ⟨lim.fresh _ hsb, ?_⟩) S.kind)
  show codeAny _ _ (.expr body (NdefX.envF (T.nf cl c) f s.heap.objs.size)) _ _
  have kp : ∀ b o, s.heap.get? b = some o → h₁.get? b = some o := fun b o e =>
    hsb.extBut b o (Nat.ne_of_lt (Heap.lt_size e)) (Heap.get?_push_of_some _ e)
  obtain ⟨b, hb, hbm⟩ := hbody f c cl A outer s H (hr.deeper _)
  have I : Inv (lcx P w K mg base N T cl c f A outer s H) [] (NdefX.startF N vs (cvs.map some)) H { s with heap := h₁, toks := s.toks + (T.ps.zip us).length } := NdefX.inv_startN S hr.hd e0 hl r C hns kp
  rw [startF_eq] at I
  obtain ⟨nO, en⟩ := env_start (N := N) hw hbx hd (ra.append rc)
  have hlen : cvs.length = T.fr.length := by have := C.len; rw [List.length_map] at this; exact this
  have q := hbm ds as (by rw [← ra.length]; exact hl) (by rw [← rc.length]; exact hlen)
  refine PySem.W.kla_codeExpr (wpAny_mono (hb.run [] _ _ H (fun v H' => ∃ ws', Post ws H ws' H' ∧ WR K ws' w1 H' ∧ DR K ws' (fun a => ws'.has a ∨ B0 a) H' v d) I ?_) (fun v s' hq => ?_) fun e s' hq => hq)
  · refine ⟨ws, B0, _, w0, en, ?_⟩
    rw [q, hm]
    intro ws' H' l e' v hv
    exact ⟨ws', ⟨l.wle, l.new, fun _ z => z.elim, fun a o h1 h2 _ => l.keep a o h1 h2 (nO a), l.ex⟩, e'.wr, hv.ret⟩
  · obtain ⟨v', H', J', rv, q⟩ := hq
    exact ⟨v', H', J'.os, J'.bare, J'.base, J'.hok, rv, q⟩
end
/-! ### f(..), f a name that holds an inner function -/
/-- the inner functions of a law: their words, what they compute -/
structure Lams where
  tx : Nat → LT
  sm : Nat → List D → Mf
open Classical in
noncomputable def fLamG (L : Lams) (d : D) (g : M (List D)) : M D := match d with
  | .fn k T ds => if T = L.tx k then g.bind fun as => if (ds ++ as).all (okd 40) = true ∧ as.length = T.ps.length then noEx (L.sm k ds as) else M.bad
    else M.bad
  | _ => M.bad
noncomputable def fCF (L : Lams) (f : M D) (g : M (List D)) : M D := f.bind fun d => fLamG L d g
theorem fLamG_no {L : Lams} {k : Nat} {T : LT} {ds : List D} {g : M (List D)} (h : ¬ T = L.tx k) : fLamG L (.fn k T ds) g = M.bad := if_neg h
theorem fLamG_fn {L : Lams} {k : Nat} {ds : List D} {g : M (List D)} : fLamG L (.fn k (L.tx k) ds) g = g.bind fun as => if (ds ++ as).all (okd 40) = true ∧ as.length = (L.tx k).ps.length then noEx (L.sm k ds as) else M.bad := if_pos rfl
theorem fCF_fn {L : Lams} {k : Nat} {ds : List D} {g : M (List D)} : fCF L (M.pure (.fn k (L.tx k) ds)) g = g.bind fun as => if (ds ++ as).all (okd 40) = true ∧ as.length = (L.tx k).ps.length then noEx (L.sm k ds as) else M.bad := by
  unfold fCF fLamG
  rw [pure_bind]
  exact if_pos rfl
section
variable {K : PySem.W.Frag} {ws : Wa} {B : Addr → Prop} {H : Hp} {w : W} {S : Addr → Prop}
theorem fn_inv {v : V} {k : Nat} {T : LT} {ds : List D} (h : DR K ws B H v (.fn k T ds)) : ∃ (f c : Addr) (cl : List (Str × Addr)) (cvs : List V), v = .ref f ∧ ¬ B f ∧ H f = some (LamO f T cl c) ∧ ¬ B c ∧ H c = some (LamX.CodeO c T.qual) ∧ CellH B H cl T.fr cvs ∧ DRs K ws B H cvs ds := by
  cases h with
  | fn n1 h1 n2 h2 hc r => exact ⟨_, _, _, _, rfl, n1, h1, n2, h2, hc, r⟩
theorem CellH.known {cl : List (Str × Addr)} {fr : List Str} {vs : List V} (h : CellH B H cl fr vs) : ∀ a, (∃ y, cl.lookup y = some a) → ¬ B a ∧ ∃ o u, H a = some (.frz o (AnyO a)) ∧ o.data = .cell (some u) := fun a ⟨y, e⟩ => by
  obtain ⟨i, hi⟩ := List.mem_iff_getElem?.mp (h.all y a e)
  obtain ⟨c, o, u, h1, h2, h3, h4, _⟩ := h.has i y hi
  rw [e] at h1
  cases h1
  exact ⟨h2, o, u, h3, h4⟩
theorem hid_rd {a : Addr} {u : List V} (hS : ∀ a, S a → ∃ o, H a = some (.frz o (AnyO a))) (r : Rd H a (.tup u)) : Rd (hid H S) a (.tup u) := by
  have q : ¬ S a := fun q => by
    obtain ⟨o, z⟩ := hS a q
    rcases r with r | ⟨o1, r⟩
    · rw [r] at z; cases z
    · rw [r] at z; cases z
  rcases r with r | ⟨o1, r⟩
  · exact .inl (by rw [hid_out q]; exact r)
  · exact .inr ⟨o1, by rw [hid_out q]; exact r⟩
theorem WR.hid (hn : ∀ a, S a → ¬ ws.has a) (hS : ∀ a, S a → ∃ o, H a = some (.frz o (AnyO a))) (h : WR K ws w H) : WR K ws w (hid H S) := by
  refine ⟨?_, h.2.keep (fun a o e z => by rw [hid_out (fun q => hn a q z)]; exact e) (fun a φ e => by rw [hid_out (fun q => by obtain ⟨o, z⟩ := hS a q; rw [e] at z; cases z)]; exact e), h.3.keep (fun a u z => hid_rd hS z) fun a o z l => by rw [hid_out (fun q => hn a q (.inr (.inr l)))]; exact z⟩
  have hw := h.1
  unfold TW at hw ⊢
  split
  · trivial
  · rename_i l t e1 e2
    rw [e1, e2] at hw
    rw [hid_out (fun z => hn t z (.inl e2))]
    exact hw
  · rename_i h1 h2
    split at hw
    · rename_i e1 e2; exact h1 e1 e2
    · rename_i e1 e2; exact h2 _ _ e1 e2
    · exact hw
theorem hid_none {a : Addr} (h : H a = none) : Pm.hid H S a = none := by
  by_cases q : S a
  · exact hid_in q
  · rw [hid_out q]; exact h
theorem hid_lst {a : Addr} {u : List V} (hS : ∀ a, S a → ∃ o, H a = some (.frz o (AnyO a))) (r : H a = some (.lst u)) : Pm.hid H S a = some (.lst u) := by
  rw [hid_out (fun q => by obtain ⟨o, z⟩ := hS a q; rw [r] at z; cases z)]; exact r
end
section
variable {X : Cx} {Wx : WX} {e : Expr} {es : List Expr} {pos p : Pos} {x : Str} {g : An} {L : Lams}
/-- an inner function runs -/
theorem run_lam {k j : Nat} {pins : List (Addr × Obj)} {σ : L2.St} {H : Hp} {s : Shared} {us : List Value} {vs : List V} {f : Addr} {ds as : List D} {ws : Wa} {B0 : Addr → Prop} {sl : Ls} {w w' : W} {d : D} {Q : VK} (hL : LamOk X.prog X.w X.K X.mg X.base k (L.tx j) (L.sm j)) (hr : Room k X.A) (I : Inv X pins σ H s) (en : Env X.K ws B0 sl w σ H)
    (hf : DR X.K ws (Bad ws B0 sl σ) H (.ref f) (.fn j (L.tx j) ds)) (r : Vals vs us) (ra : DRs X.K ws (Bad ws B0 sl σ) H vs as) (hok : (ds ++ as).all (okd 40) = true) (hl : as.length = (L.tx j).ps.length) (hm : L.sm j ds as w = .ok d w')
    (q : ∀ ws' H', Le ws (Own sl σ) H ws' (Own sl σ) H' → Env X.K ws' B0 sl w' σ H' → ∀ v, DR X.K ws' (Bad ws' B0 sl σ) H' v d → Q v H') : wpAny (model X.prog X.w) X.A (call (.ref f) us) (EP X pins σ Q) X.xe s := by
  obtain ⟨f', c, cl, cvs, ef, nf, hf, nc, hc, hcell, rc⟩ := fn_inv hf
  cases ef
  obtain ⟨S, eS⟩ : ∃ S : Addr → Prop, S = fun a => ∃ y, cl.lookup y = some a := ⟨_, rfl⟩
  have hK : ∀ a, S a → ¬ Bad ws B0 sl σ a ∧ ∃ o u, H a = some (.frz o (AnyO a)) ∧ o.data = .cell (some u) := fun a z => hcell.known a (by rw [eS] at z; exact z)
  have hS : ∀ a, S a → ∃ o, H a = some (.frz o (AnyO a)) := fun a z => let ⟨_, o, _, z, _⟩ := hK a z; ⟨o, z⟩
  have inS : ∀ {y c}, cl.lookup y = some c → S c := fun {y c} z => by rw [eS]; exact ⟨y, z⟩
  have e0 := I.env0
  have e1 : Env0 X.prog X.w X.K X.mg X.base X.A X.stack s (hid H S) := ⟨e0.frames, e0.mod, fun b o z => ⟨(e0.bs b o z).1, hid_none (e0.bs b o z).2⟩, e0.bsz, e0.funs, fun b z => hid_none (e0.frf b z), hid_ok hS e0.hok, e0.bare⟩
  have ext : ∀ {a : Addr} {φ : Heap → Prop}, H a = some (.ext φ) → hid H S a = some (.ext φ) := fun {a φ} z => by rw [hid_out (fun q => by obtain ⟨o, y⟩ := hS a q; rw [z] at y; cases y)]; exact z
  have C : NdefX.CellsAt cl (L.tx j).fr (cvs.map some) s.heap (hid H S) := by
    refine ⟨by rw [List.length_map]; exact hcell.len, fun y c z => ⟨hid_in (inS z), ?_⟩, hcell.inj, fun i y z => ?_⟩
    · obtain ⟨_, o, u, h1, h2⟩ := hK c (inS z)
      exact ⟨some u, o, (I.hok c _ h1).1, h2⟩
    · obtain ⟨c, o, u, h1, _, h3, h4, h5⟩ := hcell.has i y z
      refine ⟨c, h1, fun v hv => ⟨u, h5 v ?_, o, (I.hok c _ h3).1, h4⟩⟩
      rw [List.getElem?_map] at hv
      cases q : cvs[i]? with
      | none => rw [q] at hv; cases hv
      | some v' => rw [q] at hv; cases hv; rfl
  rw [List.all_append, Bool.and_eq_true] at hok
  have kd : ∀ {us : List V} {es : List D}, DRs X.K ws (Bad ws B0 sl σ) H us es → es.all (okd 40) = true → DRs X.K ws (Bad ws B0 sl σ) (hid H S) us es := fun r z => okds_keep (fun a u z _ => hid_rd hS z) (fun a u z _ => hid_lst hS z) (fun a _ z => z) 40 r z
  have rcode := hL X.A X.stack s (hid H S) us vs cvs f c cl ds as ws (fun a => B0 a ∨ Own sl σ a) w w' d hr e1 (ext hf) (ext hc) C r (by rw [ra.length]; exact hl) (en.wr.hid (fun a z y => (hK a z).1 (.inl y)) hS)
    (fun a z => by rw [hid_out (fun q => (hK a q).1 (.inr z))]; exact en.bxs a z) (fun a z => by rw [hid_out (fun q => (hK a q).1 (.inr z))]; exact en.bad a (.inr z)) (kd rc hok.1) (kd ra hok.2) hm
  refine wpAny_call (codeAny_mono rcode fun res s' hq => ?_)
  cases res with
  | error e => obtain ⟨_, _, _, _, _, _, _, _, _, _, _, _, z⟩ := hq; exact z.elim
  | ok fl =>
    cases fl with
    | next => exact False.elim hq
    | brk => exact False.elim hq
    | cont => exact False.elim hq
    | ret u =>
      obtain ⟨v, H', os, bare, un, hok', rv, ws3, post, hw3, hdr3⟩ := hq
      obtain ⟨un2, hok2, gone⟩ := un_hide hS I.hok un hok' fun a z y => by
        obtain ⟨o, q⟩ := hS a z
        rw [e0.frf a y] at q; cases q
      have gr : Grow H' (shw H' S H) := shw_grow gone
      have po : Post ws H ws3 (shw H' S H) := by
        refine ⟨post.wle, fun a z => ?_, fun _ z => z.elim, fun a o h1 h2 h3 => ?_, fun a z => ?_⟩
        · rcases post.new a z with y | y
          · exact .inl y
          · by_cases q : S a
            · exact absurd (gone a q) (hw3.wd a z)
            · rw [hid_out q] at y; exact .inr y
        · by_cases q : S a
          · rw [shw_in q]; exact h1
          · rw [shw_out q]; exact post.keep a o (by rw [hid_out q]; exact h1) h2 h3
        · by_cases q : S a
          · rw [shw_in q] at z; exact z
          · rw [shw_out q] at z
            have y := post.ex a z
            rw [hid_out q] at y; exact y
      obtain ⟨l4, e4⟩ := en.after po (hw3.grow gr)
      exact I.after ⟨v, shw H' S H, os, bare, un2, hok2, rv, q ws3 _ l4 e4 v (hdr3.grow gr)⟩
theorem m_calF (i : Nat) {k : Nat} (hL : ∀ j, LamOk X.prog X.w X.K X.mg X.base k (L.tx j) (L.sm j)) (hr : Room k X.A) (ha : PAm X Wx (e :: es) g) (hN : X.N[i]? = some x := by rfl) (hv : Vis X.env.scope x := by first | exact Or.inl rfl | exact Or.inr (Or.inl rfl) | exact Or.inr (Or.inr rfl))
    (hd : (x == ("__debug__" : Str)) = false := by decide) (hcd : (x == ("__classdict__" : Str)) = false := by decide)
    (he : starEach (e :: es) X.env = (false, eval e X.env) :: starEach es X.env := by rfl) (hpl : (backTo pos (starEach es X.env)).any (·.1) = false := by rfl) :
    PEm X Wx (.Call (.Name x p) (e :: es) [] pos) (fun sl => fCF L (nVar i sl) (g sl)) := by
  refine ⟨fun pins s σ H Q I h => ?_⟩
  obtain ⟨ws, B0, sl, w, en, h⟩ := h
  obtain ⟨d, v, hs, hdr, h⟩ := nVar_at (g := fun d => fLamG L d (g sl)) en h
  cases d <;> first | exact h.elim | skip
  rename_i j T ds
  by_cases eT : T = L.tx j
  case neg => rw [fLamG_no eT] at h; exact h.elim
  subst eT
  rw [fLamG_fn] at h
  obtain ⟨f, c, cl, cvs, rfl, nf, hf, _⟩ := fn_inv hdr
  have fnAt : ∀ {s' : Shared} {H' : Hp} {c : Addr} {cl : List (Str × Addr)}, Inv X pins σ H' s' → H' f = some (LamO f (L.tx j) cl c) → PySem.W.FnAt f s'.heap := fun {s' H' c cl} I z => by
    obtain ⟨od, sl, doc, pm, ctv, ho⟩ := lamO_at I.hok z
    exact ⟨_, od, _, sl, ho⟩
  refine wpAny_Call_Name_kw (thn ((pe_var (pos := p) hN hv hd hcd).run pins s σ H (fun v H1 => v = .ref f ∧ H1 = H) I ⟨.ref f, hs, rfl, rfl⟩) fun u s1 ⟨v, H1, I1, r1, q1⟩ => ?_)
  obtain ⟨ev, eH⟩ := q1
  subst ev
  rw [eH] at I1
  obtain rfl : u = Value.ref f := r1
  have ht : tA X.K X.mg Wx g σ H (fun vs H2 => ∃ ws2 w2 as, Le ws (Own sl σ) H ws2 (Own sl σ) H2 ∧ Env X.K ws2 B0 sl w2 σ H2 ∧ DRs X.K ws2 (Bad ws2 B0 sl σ) H2 vs as ∧
      runAt X.K X.mg Wx ws2 B0 sl σ H2 ((if (ds ++ as).all (okd 40) = true ∧ as.length = (L.tx j).ps.length then noEx (L.sm j ds as) else M.bad) w2) fun ws' _ d H' => ∀ v, DR X.K ws' (Bad ws' B0 sl σ) H' v d → Q v H') := by
    refine ⟨ws, B0, sl, w, en, ?_⟩
    have h1 := runAt.bind h
    cases qg : g sl w with
    | bad => rw [qg] at h1; exact h1
    | ex c w1 => rw [qg] at h1; exact h1
    | ok as w1 =>
      rw [qg] at h1
      exact fun ws2 H2 l2 e2 vs hv => ⟨ws2, w1, as, l2, e2, hv, h1 ws2 H2 l2 e2⟩
  refine PySem.W.callWith_F (first := []) (fnAt I1 hf) (thn (ha.run pos pins s1 σ H _ I1 ht) fun us s2 ⟨vs, H2, I2, r, ws2, w2, as, l2, e2, ra, h2⟩ => ?_) he hpl
  have hd2 := hdr.le l2
  refine ⟨by obtain ⟨_, _, _, _, z, _, h1, _⟩ := fn_inv hd2; cases z; exact fnAt I2 h1, ?_⟩
  show wpAny _ _ (call (.ref f) us) _ _ _
  by_cases hok : (ds ++ as).all (okd 40) = true ∧ as.length = (L.tx j).ps.length
  case neg => rw [if_neg hok] at h2; exact h2.elim
  rw [if_pos hok] at h2
  cases q : noEx (L.sm j ds as) w2 with
  | bad => rw [q] at h2; exact h2.elim
  | ex c w3 => exact absurd q noEx_ex
  | ok d w3 =>
    rw [q] at h2
    exact run_lam (hL j) hr I2 e2 hd2 r ra hok.1 hok.2 (noEx_ok q) h2
end
end Pm
namespace Pm
open PySem PySem.Spec PyProof.Rows L2

/-! ### an inner function is made -/
section
variable {X : Cx} {pins : List (Addr × Obj)} {σ : L2.St} {H : Hp} {s : Shared}
theorem inv_lam {T : LT} {cl : List (Str × Addr)} {c : Addr} {doc pm ctv : Value} {t' : Nat} (I : Inv X pins σ H s) :
    Inv X pins σ (upd H s.heap.objs.size (LamO s.heap.objs.size T cl c)) { s with heap := s.heap.push { cls := .type "function", data := .func (T.fd cl c doc pm ctv) }, toks := t' } := by
  have e : (s.heap.push ({ cls := .type "function", data := .func (T.fd cl c doc pm ctv) } : Obj)).get? s.heap.objs.size = some _ := Heap.get?_push_size _ rfl
  exact I.laid (fun b u z => Heap.get?_push_of_some _ z) (Nat.le_refl _) ⟨⟨_, _, doc, pm, ctv, e⟩, ⟨_, e⟩, fun h1 h2 ⟨od, sl, d, p, t, z⟩ st => ⟨od, sl, d, p, t, st _ z⟩⟩
theorem lam_make {TT : List (Addr × Str)} {q : Str} {c P : Addr} {params : Arguments} {body : Expr} {scope : Scope} {pos : Pos} {T : LT} {E Q : Value → Shared → Prop} (I : Inv X pins σ H s) (tb : LamX.TabB X.base X.mg c P) (hcode : X.env.code = .ref c) (hq : X.env.qual ++ "<lambda>" = q) (hm : (P, q) ∈ TT)
    (hu : ∀ p ∈ TT, p.1 = P → p.2 = q) (hT : LamX.Tabs TT H) (hdef : defaultsOf params X.env = ([], [])) (hfree : ∀ y ∈ scope.names, y.2 = .free → ∃ c, X.env.cells.lookup y.1 = some c)
    (h1 : T.name = "<lambda>") (h2 : T.qual = q) (h3 : T.params = params) (h4 : T.body = .expr body) (h5 : T.scope = scope)
    (h : ∀ (f c' : Addr) (H1 : Hp) (s' : Shared), Inv X pins σ H1 s' → (∀ b o, H b = some o → b ≠ P → H1 b = some o) → (∀ b, H1 b = none → H b = none) → LamX.Tabs TT H1 → H f = none → H1 f = some (LamO f T (cloFrom X.env.cells scope.names []) c') → H1 c' = some (LamX.CodeO c' T.qual) → Q (.ref f) s') :
    wpAny (model X.prog X.w) X.A (eval (.Lambda params body scope pos) X.env) Q E s := by
  obtain ⟨tn, tq, tp, tbd, ts, tps, tfr⟩ := T
  subst h1 h2 h3 h4 h5
  obtain ⟨ps, hP, ht, ha⟩ := hT _ hm
  refine PySem.W.kla_eval hdef ?_
  rw [hq]
  have bP : s.heap.BuiltinsAt X.mg P := tb.bm.keeps I.bk
  have hP' : s.heap.get? P = some { cls := .none, data := .fields ps } := I.hok P _ hP
  cases hc : codeAmong pos ps.toList with
  | none =>
    refine PySem.W.kla_makeFunction (mg := X.mg) (c := c) (P := P) (ps := ps) (closure_ok hfree) I.ok.glob (I.mod.glob.keeps I.bk) hcode (tb.code.keeps I.bk) hP' ht hc tb.gP bP fun c' ctv h' tk hx hge hlt hrec htb => ?_
    obtain ⟨c2, oc, vs, t, e2, hoc, hd, hv⟩ := hrec
    cases e2
    have nC : H c' = none := I.hok.fresh hge
    have nPC : P ≠ c' := ne_of_none hP nC
    have I1 := LamX.inv_table (t' := tk) (q := tq) (more := #[rawInt pos.line, rawInt pos.col, .ref c']) (h' := h') I hP (fun b o hb e => hx b o hb e) htb hge ⟨oc, vs, t, hoc, hd, hv⟩
    obtain ⟨H1, eH⟩ : ∃ H1, H1 = upd (upd H P (.tbl (ps ++ #[rawInt pos.line, rawInt pos.col, .ref c']))) c' (LamX.CodeO c' tq) := ⟨_, rfl⟩
    rw [← eH] at I1
    have k1 : ∀ b o, H b = some o → b ≠ P → H1 b = some o := fun b o e n => by rw [eH, upd_ne (ne_of_none e nC), upd_ne n]; exact e
    have nF : H1 h'.objs.size = none := I1.hok.fresh (Nat.le_refl _)
    have I2 := inv_lam (T := ⟨"<lambda>", tq, tp, .expr body, ts, tps, tfr⟩) (cl := cloFrom X.env.cells ts.names []) (c := c') (doc := .none) (pm := (X.mg "__name__").getD .none) (ctv := ctv) (t' := tk) I1
    have up : ∀ b o, H1 b = some o → upd H1 h'.objs.size (LamO h'.objs.size ⟨"<lambda>", tq, tp, .expr body, ts, tps, tfr⟩ (cloFrom X.env.cells ts.names []) c') b = some o := fun b o e => (upd_ne (ne_of_none e nF)).trans e
    have c1 : H1 c' = some (LamX.CodeO c' tq) := by rw [eH]; exact upd_same
    have dn : ∀ b, H1 b = none → H b = none := fun b e => by
      rw [eH] at e
      exact NdefX.upd_none (NdefX.upd_none e)
    have eL : (ps ++ #[rawInt pos.line, rawInt pos.col, .ref c']).toList = ps.toList ++ [rawInt pos.line, rawInt pos.col, .ref c'] := by simp
    have T1 : LamX.Tabs TT H1 := fun p hp => by
      by_cases hb : p.1 = P
      · rw [hu p hp hb, hb]
        refine ⟨_, by rw [eH, upd_ne nPC, upd_same], by rw [eL]; exact PySem.TriplesOk_snoc _ _ _ _ ht, fun p' cv hcv => ?_⟩
        rw [eL] at hcv
        rcases LamX.among_app _ ht hcv with z | z
        · obtain ⟨c0, e1, e2⟩ := ha p' cv z
          exact ⟨c0, e1, k1 _ _ e2 (fun z => by rw [z, hP] at e2; cases e2)⟩
        · exact ⟨c', z, c1⟩
      · obtain ⟨ps', a1, a2, a3⟩ := hT p hp
        refine ⟨ps', k1 _ _ a1 hb, a2, fun p' cv hcv => ?_⟩
        obtain ⟨c0, e1, e2⟩ := a3 p' cv hcv
        exact ⟨c0, e1, k1 _ _ e2 (fun z => by rw [z, hP] at e2; cases e2)⟩
    exact h h'.objs.size c' _ _ I2 (fun b o e n => up b o (k1 b o e n)) (fun b e => dn b (NdefX.upd_none e)) (T1.ext up) (dn _ nF) upd_same (up _ _ c1)
  | some cv =>
    obtain ⟨c', e, hco⟩ := ha pos cv hc
    subst e
    refine PySem.W.kla_makeFunctionHit (mg := X.mg) (c := c) (P := P) (ps := ps) (closure_ok hfree) I.ok.glob (I.mod.glob.keeps I.bk) hcode (tb.code.keeps I.bk) hP' ht hc bP fun ctv h' tk hx hsz => ?_
    have I1 : Inv X pins σ H { s with heap := h', toks := tk } := I.kept hx
    have nF : H h'.objs.size = none := I1.hok.fresh (Nat.le_refl _)
    have I2 := inv_lam (T := ⟨"<lambda>", tq, tp, .expr body, ts, tps, tfr⟩) (cl := cloFrom X.env.cells ts.names []) (c := c') (doc := .none) (pm := (X.mg "__name__").getD .none) (ctv := ctv) (t' := tk) I1
    have up : ∀ b o, H b = some o → upd H h'.objs.size (LamO h'.objs.size ⟨"<lambda>", tq, tp, .expr body, ts, tps, tfr⟩ (cloFrom X.env.cells ts.names []) c') b = some o := fun b o e => (upd_ne (ne_of_none e nF)).trans e
    exact h h'.objs.size c' _ _ I2 (fun b o e _ => up b o e) (fun b e => NdefX.upd_none e) (hT.ext up) nF upd_same (up _ _ hco)
end
/-! ### x(.., lambda ..: ..) -/
section
variable {K : PySem.W.Frag} {ws : Wa} {B0 : Addr → Prop} {sl : Ls} {w : W} {σ : L2.St} {H : Hp}
theorem Env.nbx {a : Addr} {φ : Heap → Prop} (e : Env K ws B0 sl w σ H) (h : H a = some (.ext φ)) : ¬ Bad ws B0 sl σ a := fun z => by
  rcases z with z | z | z
  · rcases z with z | z | z
    · have hw := e.wr.1
      unfold TW at hw
      rw [z] at hw
      cases q : w.town with
      | none => rw [q] at hw; exact hw.elim
      | some l =>
        rw [q] at hw
        have hw : H a = some (.lst (l.map V.int)) := hw
        rw [h] at hw; cases hw
    · rw [e.wr.2.1] at z
      obtain ⟨p, hp, rfl⟩ := List.mem_map.mp z
      obtain ⟨ps, h1, _⟩ := e.wr.2.2 p hp
      rw [h] at h1; cases h1
    · obtain ⟨vs, q⟩ := e.wr.3.lv_lst z
      rw [h] at q; cases q
  · exact (e.bx a z).2.nx φ h
  · exact (e.bxs a (.inr z)).2.nx φ h
end
/-- what the names hold -/
def capD : List Nat → Ls → M (List D)
  | [], _ => M.pure []
  | j :: js, sl => (nVar j sl).bind fun d => (capD js sl).bind fun r => M.pure (d :: r)
theorem cap_vals {K : PySem.W.Frag} {ws : Wa} {B0 : Addr → Prop} {sl : Ls} {w w' : W} {σ : L2.St} {H : Hp} (e : Env K ws B0 sl w σ H) : ∀ (js : List Nat) (cds : List D), capD js sl w = .ok cds w' → w' = w ∧ ∃ cvs, js.map (NdefX.slotAt σ) = cvs.map some ∧ DRs K ws (Bad ws B0 sl σ) H cvs cds
  | [], cds, h => by cases h; exact ⟨rfl, [], rfl, .nil⟩
  | j :: js, cds, h => by
    obtain ⟨d, w1, h1, h2⟩ := bind_okE h
    obtain ⟨r, w2, h3, h4⟩ := bind_okE h2
    cases h4
    unfold nVar at h1
    cases q : sl[j]? with
    | none => rw [q] at h1; cases h1
    | some z =>
      rw [q] at h1
      cases z with
      | no => cases h1
      | ow d => cases h1
      | va d =>
        cases h1
        obtain ⟨e1, cvs, e2, e3⟩ := cap_vals e js r h3
        obtain ⟨v, q1, q2⟩ := e.va j _ q
        exact ⟨e1, v :: cvs, by rw [List.map_cons, e2, NdefX.slotAt_of q1]; rfl, .cons q2 e3⟩
theorem cap_noex {sl : Ls} {w w' : W} {c : Str} : ∀ (js : List Nat), capD js sl w ≠ .ex c w'
  | [], h => by cases h
  | j :: js, h => by
    unfold capD M.bind nVar at h
    cases q : sl[j]? with
    | none => rw [q] at h; cases h
    | some z =>
      rw [q] at h
      cases z with
      | no => cases h
      | ow d => cases h
      | va d =>
        simp only [M.pure] at h
        cases q2 : capD js sl w with
        | bad => rw [q2] at h; cases h
        | ex c w1 => exact cap_noex js q2
        | ok r w1 => rw [q2] at h; cases h
/-- a lambda's name -/
def lamN : Str := "<lambda>"
def fCalL (m : Mf) (k : Nat) (T : LT) (cs g : M (List D)) : M D := g.bind fun ds => cs.bind fun cds => (noEx (m (ds ++ [.fn k T cds]))).bind fun d => if okd 40 d = true then M.pure d else M.bad
def tAL (X : Cx) (Wx : WX) (g : An) (T : LT) (cl : List (Str × Addr)) : TA := fun σ H Q => ∃ ws B0 sl w, Env X.K ws B0 sl w σ H ∧ runAt X.K X.mg Wx ws B0 sl σ H (g sl w) fun ws' w' ds H' =>
  ∀ vs f c H1, Le ws' (Own sl σ) H' ws' (Own sl σ) H1 → Env X.K ws' B0 sl w' σ H1 → DRs X.K ws' (Bad ws' B0 sl σ) H1 vs ds → H1 f = some (LamO f T cl c) → H1 c = some (LamX.CodeO c T.qual) → Q (vs ++ [.ref f]) H1
/-- what the maker must know: its code object's table; its inner function's words -/
structure Mkr (X : Cx) (x : Str) (T : LT) (params : Arguments) (body : Expr) (scope : Scope) : Prop where
  tab : ∃ c P, codeTab X.K x = some (c, P) ∧ X.env.code = .ref c
  tbs : TBs X.K X.mg X.base
  nd : ((tabsK X.K).map (·.1)).Nodup
  mem : (x, lamN) ∈ makers
  qual : X.env.qual = x ++ ".<locals>."
  h1 : T.name = "<lambda>"
  h2 : T.qual = innerName (x, lamN)
  h3 : T.params = params
  h4 : T.body = .expr body
  h5 : T.scope = scope
  dflt : defaultsOf params X.env = ([], [])
  free : ∀ y ∈ scope.names, y.2 = .free → X.env.scope.names.lookup y.1 = some .cell ∨ X.env.scope.names.lookup y.1 = some .free
section
variable {X : Cx} {Wx : WX} {e : Expr} {es : List Expr} {pos p lpos : Pos} {x : Str} {g : An} {T : LT} {params : Arguments} {body : Expr} {scope : Scope}
theorem nodup_fst {α β : Type} : ∀ {l : List (α × β)} {a : α} {b b' : β}, (l.map (·.1)).Nodup → (a, b) ∈ l → (a, b') ∈ l → b = b'
  | [], _, _, _, _, h, _ => nomatch h
  | (a0, b0) :: r, a, b, b', nd, h, h' => by
    rw [List.map_cons, List.nodup_cons] at nd
    rcases List.mem_cons.mp h with e | h
    · cases e
      rcases List.mem_cons.mp h' with e | h'
      · cases e; rfl
      · exact absurd (List.mem_map.mpr ⟨_, h', rfl⟩) nd.1
    · rcases List.mem_cons.mp h' with e | h'
      · cases e
        exact absurd (List.mem_map.mpr ⟨_, h, rfl⟩) nd.1
      · exact nodup_fst nd.2 h h'
theorem mal_one (mk : Mkr X x T params body scope) (hs : starEach [.Lambda params body scope lpos] X.env = (false, eval (.Lambda params body scope lpos) X.env) :: starEach [] X.env := by rfl) :
    PA X [.Lambda params body scope lpos] (tAL X Wx (fun _ => M.pure []) T (cloFrom X.env.cells scope.names [])) := by
  have hp : PE X (.Lambda params body scope lpos) (fun σ H Q => tAL X Wx (fun _ => M.pure []) T (cloFrom X.env.cells scope.names []) σ H fun vs H1 => ∃ v, vs = [v] ∧ Q v H1) := by
    refine ⟨fun pins s σ H Q I h => ?_⟩
    obtain ⟨ws, B0, sl, w, en, h⟩ := h
    obtain ⟨c, P, h1, h2⟩ := mk.tab
    have hmem : (P, innerName (x, lamN)) ∈ tabsK X.K := List.mem_filterMap.mpr ⟨(x, lamN), mk.mem, by rw [h1]; rfl⟩
    refine lam_make (T := T) I (mk.tbs _ mk.mem (c, P) h1) h2 (q := innerName (x, lamN)) (by rw [mk.qual]; rfl) hmem (fun p hp e => ?_) en.wr.2.2 mk.dflt (fun y hy z => (mk.free y hy z).elim (fun z => I.ok.has _ (.inl z)) fun z => I.ok.has _ (.inr z)) mk.h1 mk.h2 mk.h3 mk.h4 mk.h5 fun f c' H1 s' I1 k1 k2 t1 f0 f1 c1 => ?_
    · obtain ⟨a, b⟩ := p
      cases e
      exact nodup_fst mk.nd hp hmem
    · have hasP : ws.has P := .inr (.inl (by rw [en.wr.2.1]; exact List.mem_map.mpr ⟨_, hmem, rfl⟩))
      have po : Post ws H ws H1 := ⟨ws.le_refl, fun _ z => .inl z, fun _ z => z.elim, fun a o e n _ => k1 a o e (fun z => n (by rw [z]; exact hasP)), k2⟩
      have wr : WR X.K ws w H1 := by
        refine ⟨?_, ⟨en.wr.2.1, t1⟩, en.wr.3.keep_tbl (en.wr.2.2 _ hmem) k1⟩
        have hw := en.wr.1
        unfold TW at hw ⊢
        split
        · trivial
        · rename_i l t e1 e2
          rw [e1, e2] at hw
          have hw : H t = some (.lst (l.map V.int)) := hw
          refine k1 _ _ hw fun z => ?_
          obtain ⟨ps, y, _⟩ := en.wr.2.2 _ hmem
          have y : H P = some (.tbl ps) := y
          rw [z, y] at hw; cases hw
        · rename_i h1 h2
          split at hw
          · rename_i e1 e2; exact h1 e1 e2
          · rename_i e1 e2; exact h2 _ _ e1 e2
          · exact hw
      obtain ⟨l1, e1⟩ := en.after po wr
      obtain ⟨v, ev, q⟩ := runAt.here en h [] f c' H1 l1 e1 .nil f1 c1
      cases ev
      exact ⟨.ref f, H1, I1, rfl, q⟩
  refine (pa_cons hp pa_nil hs).mimp fun σ H Q h => ?_
  obtain ⟨ws, B0, sl, w, en, h⟩ := h
  exact ⟨ws, B0, sl, w, en, fun ws1 H1 l1 e1 vs f c H2 l2 e2 r f1 c1 => by
    cases r
    exact ⟨_, rfl, h ws1 H1 l1 e1 [] f c H2 l2 e2 .nil f1 c1⟩⟩
theorem mal_cons {f : Dn} {cl : List (Str × Addr)} (ha : PEm X Wx e f) (hr : PA X es (tAL X Wx g T cl)) (hs : starEach (e :: es) X.env = (false, eval e X.env) :: starEach es X.env := by rfl) : PA X (e :: es) (tAL X Wx (fun sl => fCons (f sl) (g sl)) T cl) := by
  refine (pa_cons ha hr hs).mimp fun σ H Q ⟨ws, B0, sl, w, en, h⟩ => ?_
  refine ⟨ws, B0, sl, w, en, (runAt.bind h).mono fun ws1 w1 d H1 l1 e1 h1 v hv => ?_⟩
  refine ⟨ws1, B0, sl, w1, e1, (runAt.bind h1).mono fun ws2 w2 ds H2 l2 e2 h2 vs f c H3 l3 e3 r f1 c1 => ?_⟩
  exact runAt.here e2 h2 (v :: vs) f c H3 l3 e3 (.cons ((hv.le l2).le l3) r) f1 c1
/-- x(.., lambda ..) -/
theorem m_calL {k np kk : Nat} {ps : List Str} {m : Mf} {cl : List (Str × Addr)} {js : List Nat} (C : Cal X.prog X.w X.K X.mg X.base k x ps m) (hp : ps.length = np + 1) (hr : Room k X.A) (ha : PA X (e :: es) (tAL X Wx g T cl)) (hn : Cnt np g) (hfn : ∀ y, X.fn y = true)
    (hcl : cl = cloFrom X.env.cells T.scope.names []) (hfr : ∀ y ∈ T.scope.names, y.2 = .free → y.1 ∈ T.fr) (cp : X.Ok → NdefX.Caps X cl T.fr js)
    (hg : Gl X x := by rfl) (hdb : (x == ("__debug__" : Str)) = false := by decide) (he : starEach (e :: es) X.env = (false, eval e X.env) :: starEach es X.env := by rfl) (hpl : (backTo pos (starEach es X.env)).any (·.1) = false := by rfl) :
    PEm X Wx (.Call (.Name x p) (e :: es) [] pos) (fun sl => fCalL m kk T (capD js sl) (g sl)) := by
  obtain ⟨f0, fd, hm0, hk0, hb0, F⟩ := C
  refine ⟨fun pins s σ H Q I h => ?_⟩
  obtain ⟨ws, B0, sl, w, en, h⟩ := h
  refine wpAny_Call_Name_kw (ld_glob I hg hm0 ?_ hdb)
  have ht : tAL X Wx g T cl σ H (fun vs H2 => ∃ ws2 w2 ds vs0 f c, vs = vs0 ++ [.ref f] ∧ ds.length = np ∧ Le ws (Own sl σ) H ws2 (Own sl σ) H2 ∧ Env X.K ws2 B0 sl w2 σ H2 ∧ DRs X.K ws2 (Bad ws2 B0 sl σ) H2 vs0 ds ∧ H2 f = some (LamO f T cl c) ∧ H2 c = some (LamX.CodeO c T.qual) ∧
      runAt X.K X.mg Wx ws2 B0 sl σ H2 (((capD js sl).bind fun cds => (noEx (m (ds ++ [.fn kk T cds]))).bind fun d => if okd 40 d = true then M.pure d else M.bad) w2) fun ws' _ d H' => ∀ v, DR X.K ws' (Bad ws' B0 sl σ) H' v d → Q v H') := by
    refine ⟨ws, B0, sl, w, en, ?_⟩
    have h1 := runAt.bind h
    cases qg : g sl w with
    | bad => rw [qg] at h1; exact h1
    | ex c w1 => rw [qg] at h1; exact h1
    | ok ds w1 =>
      rw [qg] at h1
      exact fun ws2 H2 l2 e2 vs f c H3 l3 e3 r f1 c1 => ⟨ws2, w1, ds, vs, f, c, rfl, hn _ _ _ _ qg, l2.trans l3, e3, r, f1, c1, runAt.le l3 (h1 ws2 H2 l2 e2)⟩
  refine PySem.W.callWith_K (h₀ := X.base) I.ok.mod.kin hk0 (thn (ha.run pos pins s σ H _ I ht) fun us s2 ⟨vs, H2, I2, r, ws2, w2, ds, vs0, f, c, ev, hlen, l2, e2, rd, f1, c1, h2⟩ => ⟨I2.kIn, ?_⟩) he hpl
  subst ev
  have h3 := runAt.bind h2
  cases qc : capD js sl w2 with
  | bad => rw [qc] at h3; exact h3.elim
  | ex c w3 => exact absurd qc (cap_noex js)
  | ok cds w3 =>
  rw [qc] at h3
  obtain ⟨rfl, cvs, hjs, rcv⟩ := cap_vals e2 js cds qc
  have h4 := runAt.bind (runAt.here e2 h3)
  cases qm : noEx (m (ds ++ [.fn kk T cds])) w3 with
  | bad => rw [qm] at h4; exact h4.elim
  | ex c w4 => exact absurd qm noEx_ex
  | ok d w4 =>
  rw [qm] at h4
  have CA : NdefX.CellsAt cl T.fr (cvs.map some) s2.heap H2 := by rw [← hjs]; exact NdefX.cells_of I2 (cp I2.ok)
  obtain ⟨S, eS⟩ : ∃ S : Addr → Prop, S = fun a => ∃ y, cl.lookup y = some a := ⟨_, rfl⟩
  have hS : ∀ a, S a → H2 a = none ∧ ∃ o, s2.heap.get? a = some o := fun a z => by
    rw [eS] at z
    obtain ⟨y, z⟩ := z
    obtain ⟨z1, v, o, z2, _⟩ := CA.all y a z
    exact ⟨z1, o, z2⟩
  have above : ∀ a, S a → X.s_0.heap.objs.size ≤ a := fun a z => by
    rw [eS] at z
    obtain ⟨y, z⟩ := z
    exact I2.ok.cab y a (hfn y) ((cp I2.ok).sub y a z)
  have e0 := I2.env0
  have gS : Grow H2 (shw H2 S (knw s2.heap)) := shw_grow fun a z => (hS a z).1
  have notS : ∀ {a : Addr} {o : HO}, H2 a = some o → ¬ S a := fun {a o} z y => by rw [(hS a y).1] at z; cases z
  have e1 : Env0 X.prog X.w X.K X.mg X.base X.A X.stack s2 (shw H2 S (knw s2.heap)) := by
    refine ⟨e0.frames, e0.mod, fun b o z => ⟨(e0.bs b o z).1, ?_⟩, e0.bsz, e0.funs, fun b z => ?_, shw_ok hS e0.hok, e0.bare⟩
    · rw [shw_out (fun y => absurd (Nat.lt_of_lt_of_le (Heap.lt_size z) (Nat.le_trans I2.ok.bsz (above b y))) (Nat.lt_irrefl _))]
      exact (e0.bs b o z).2
    · rw [shw_out (fun y => ?_)]
      · exact e0.frf b z
      · rcases List.mem_cons.mp (I2.stkSub b z) with q | q
        · rw [eS] at y
          obtain ⟨n, y⟩ := y
          exact I2.cne n b ((cp I2.ok).sub n b y) q
        · obtain ⟨_, o, ho, _⟩ := I2.ok.funs.mem q
          exact absurd (Nat.lt_of_lt_of_le (Heap.lt_size ho) (above b y)) (Nat.lt_irrefl _)
  have nB : ∀ a, S a → ¬ Bad ws2 B0 sl σ a := fun a z => e2.fresh (hS a z).1
  have cellH : CellH (Bad ws2 B0 sl σ) (shw H2 S (knw s2.heap)) cl T.fr cvs := by
    refine ⟨by have := CA.len; rw [List.length_map] at this; exact this, CA.inj, fun y c z => ?_, fun i y z => ?_⟩
    · rw [hcl] at z
      rcases cloFrom_mem (PySem.mem_of_lookup z) with q | ⟨q, _⟩
      · cases q
      · exact hfr _ q rfl
    · obtain ⟨c, z1, z2⟩ := CA.has i y z
      have inS : S c := by rw [eS]; exact ⟨y, z1⟩
      have hi : i < cvs.length := by
        have q := CA.len
        rw [List.length_map] at q
        rw [q]
        exact (List.getElem?_eq_some_iff.mp z).1
      obtain ⟨u, ru, o, ho, hd⟩ := z2 cvs[i] (by rw [List.getElem?_map, List.getElem?_eq_getElem hi]; rfl)
      refine ⟨c, o, u, z1, nB c inS, by rw [shw_in inS]; exact knw_at ho, hd, fun v hv => ?_⟩
      rw [List.getElem?_eq_getElem hi] at hv
      cases hv
      exact ru
  have drf : DR X.K ws2 (Bad ws2 B0 sl σ) (shw H2 S (knw s2.heap)) (.ref f) (.fn kk T cds) := .fn (e2.nbx f1) (gS _ _ f1) (e2.nbx c1) (gS _ _ c1) cellH (rcv.grow gS)
  have hsp : spF X.K X.mg ps.length m (vs0 ++ [.ref f]) (shw H2 S (knw s2.heap)) (fun v H' => ∃ ws', Post ws2 (shw H2 S (knw s2.heap)) ws' H' ∧ WR X.K ws' w4 H' ∧ DR X.K ws' (fun a => ws'.has a ∨ (B0 a ∨ Own sl σ a)) H' v d) (fun _ _ _ => False) := by
    refine ⟨?_, ws2, fun a => B0 a ∨ Own sl σ a, w3, ds ++ [.fn kk T cds], e2.wr.grow gS, ?_, ?_, (rd.grow gS).append (.one drf), ?_⟩
    · rw [List.length_append, rd.length, hlen, hp]; rfl
    · exact (e2.grow gS).bxs
    · exact fun a z => (e2.grow gS).bad a (.inr z)
    · rw [noEx_ok qm]
      exact fun v ws' H' po hw hv => ⟨ws', po, hw, hv⟩
  have hul : us.length = ps.length := by rw [← r.length]; exact F.len _ _ _ _ hsp
  have b := hb0 s2 us I2.kIn (by rw [List.append_nil]; exact hul)
  rw [List.append_nil] at b
  refine wpAny_call (codeAny_mono (F.run X.A X.stack s2 _ ⟨us, []⟩ us _ _ _ hr e1 b r hsp) fun res s' hq => ?_)
  cases res with
  | error e => obtain ⟨_, _, _, _, _, _, _, _, _, _, _, _, z⟩ := hq; exact z.elim
  | ok fl =>
    cases fl with
    | next => exact False.elim hq
    | brk => exact False.elim hq
    | cont => exact False.elim hq
    | ret u =>
      obtain ⟨v, H', os, bare, un, hok', rv, ws3, post, hw3, hdr3⟩ := hq
      obtain ⟨un2, hok2, known⟩ := un_show hS un hok'
      have po : Post ws2 H2 ws3 (hid H' S) := by
        refine ⟨post.wle, fun a z => ?_, fun _ z => z.elim, fun a o h1 h2 h3 => ?_, fun a z => ?_⟩
        · rcases post.new a z with y | y
          · exact .inl y
          · by_cases q : S a
            · exact .inr (hS a q).1
            · rw [shw_out q] at y; exact .inr y
        · rw [hid_out (notS h1)]
          exact post.keep a o (gS a o h1) h2 h3
        · by_cases q : S a
          · exact (hS a q).1
          · rw [hid_out q] at z
            exact gS.ex a (post.ex a z)
      have nh : ∀ a, S a → ¬ ws3.has a := fun a q z => by
        have hw := hw3
        obtain ⟨o, ko⟩ := known a q
        rcases z with z | z | z
        · have ht := hw.1
          unfold TW at ht
          rw [z] at ht
          cases qt : w4.town with
          | none => rw [qt] at ht; exact ht.elim
          | some l =>
            rw [qt] at ht
            have ht : H' a = some (.lst (l.map V.int)) := ht
            rw [ko] at ht; cases ht
        · rw [hw.2.1] at z
          obtain ⟨p, hp, rfl⟩ := List.mem_map.mp z
          obtain ⟨ps, y, _⟩ := hw.2.2 p hp
          rw [ko] at y; cases y
        · obtain ⟨vs, y⟩ := hw.3.lv_lst z
          rw [ko] at y; cases y
      obtain ⟨l4, e4⟩ := e2.after po (hw3.hid nh known)
      refine I2.after ⟨v, hid H' S, os, bare, un2, hok2, rv, ?_⟩
      have h6 := h4 ws3 _ l4 e4
      dsimp only at h6
      by_cases z : okd 40 d = true
      · rw [if_pos z] at h6
        exact runAt.here e4 h6 v (okd_keep (fun a u y _ => hid_rd known y) (fun a u y _ => hid_lst known y) (fun a _ y => y) 40 v d z hdr3)
      · rw [if_neg z] at h6
        exact h6.elim
end
end Pm
namespace Pm
open PySem PySem.Spec PyProof.Rows L2

/-! ### defs that make an inner function -/
section
variable {P : Program} {w : World} {K : PySem.W.Frag} {mg : Str → Option Value} {base : Heap}
theorem body_go {N : List Str} {n : Nat} {m : Mf} {b : Sk} {vs : List V} {H : Hp} {Q : VK} {E : XK} (hm : ∀ ds : List D, ds.length = n → runB b N.length ds = m ds) (h : spF K mg n m vs H Q E) :
    tS K mg (fun cls d _ H => E cls d H) b { nx := fun _ H' => Q .non H', rt := Q } (L2.start N vs) H := by
  obtain ⟨hl, ws, B0, w1, ds, hw, hbx, hd, r, h⟩ := h
  obtain ⟨nO, e⟩ := env_start (N := N) hw hbx hd r
  rw [← hm ds (by rw [← r.length]; exact hl)] at h
  have po : ∀ {σ' : L2.St} {ws' : Wa} {sl' : Ls} {H' : Hp}, Le ws (Own (slStart N.length ds) (L2.start N vs)) H ws' (Own sl' σ') H' → Post ws H ws' H' := fun l =>
    ⟨l.wle, l.new, fun _ z => z.elim, fun a o h1 h2 _ => l.keep a o h1 h2 (nO a), l.ex⟩
  refine ⟨ws, B0, _, w1, fun _ => M.pure .non, fun _ => M.bad, fun _ => M.bad, e, ⟨fun z => ?_, ?_, ?_, ?_, ?_, ?_⟩⟩
  · have z : runB b N.length ds w1 = .bad := z
    rw [z] at h
    exact h
  · intro σ' ws' sl' w' H' l e' q
    have q : runB b N.length ds w1 = .ok .non w' := q.symm
    rw [q] at h
    exact h .non ws' H' (po l) e'.wr .non
  · intro σ' ws' sl' w' H' l e' q
    have q : runB b N.length ds w1 = .bad := q.symm
    rw [q] at h
    exact h.elim
  · intro σ' ws' sl' w' H' l e' q
    have q : runB b N.length ds w1 = .bad := q.symm
    rw [q] at h
    exact h.elim
  · intro d w' q σ' ws' sl' H' v l e' hv
    have q : runB b N.length ds w1 = .ok d w' := q
    rw [q] at h
    exact h v ws' H' (po l) e'.wr hv
  · intro c w' q σ' ws' sl' H' C hC l e'
    have q : runB b N.length ds w1 = .ex c w' := q
    rw [q] at h
    exact h ws' H' C hC (po l) e'.wr
/-- the def x as the top has written it, its code object's table known -/
def DfM (K : PySem.W.Frag) (mg : Str → Option Value) (x : Str) (st : Stmt) (ps : List Str) : Prop := ∃ (f c T : Addr) (oc : Value) (od : Option Addr) (kV doc pm : Value) (an : Option Addr) (ct : Value) (osl : Array (Option Value)),
  K.lookup f = some ⟨oc, od, .func (PySem.W.fnOf x x (defArgs st) (defBody st) (defScope st) .none kV doc pm an (.ref c) ct), osl⟩ ∧ PySem.W.codeIn K (.ref c) x = true ∧ PySem.W.keepIn K (.ref f) = true ∧ mg x = some (.ref f) ∧ codeTab K x = some (c, T) ∧
  ∀ us : List Value, us.length = ps.length → bindArgs (PySem.W.fnOf x x (defArgs st) (defBody st) (defScope st) .none kV doc pm an (.ref c) ct) ⟨us, []⟩ = pure (ps.zip us)
theorem dfm_mk {x : Str} {st : Stmt} {f c T : Addr} {h : Heap} {ps : List Str} {oc oc2 : Value} {od od2 an : Option Addr} {osl osl2 : Array (Option Value)} {kV doc pm ct : Value} {vs : Array Value} (X : K.In h) (G : h.Ns mainGlobals mg) (a : PySem.W.nsIn K mainGlobals x = some (some (.ref f)))
    (l : K.lookup f = some ⟨oc, od, .func (PySem.W.fnOf x x (defArgs st) (defBody st) (defScope st) .none kV doc pm an (.ref c) ct), osl⟩) (hc : PySem.W.codeIn K (.ref c) x = true) (k : PySem.W.keepIn K (.ref f) = true)
    (lc : K.lookup c = some ⟨oc2, od2, .fields vs, osl2⟩) (hT : (vs[11]? : Option Value) = some (.ref T))
    (hb : ∀ (kV doc pm : Value) (an : Option Addr) (cdv ct : Value) (us : List Value), us.length = ps.length → bindArgs (PySem.W.fnOf x x (defArgs st) (defBody st) (defScope st) .none kV doc pm an cdv ct) ⟨us, []⟩ = pure (ps.zip us)) : DfM K mg x st ps :=
  ⟨f, c, T, oc, od, kV, doc, pm, an, ct, osl, l, hc, k, PySem.W.mg_of X G a, by unfold codeTab; rw [a]; simp only []; rw [l]; simp only []; rw [lc]; simp only []; rw [hT], hb _ _ _ _ _ _⟩
abbrev BdyM (P : Program) (w : World) (K : PySem.W.Frag) (mg : Str → Option Value) (base : Heap) (N : List Str) (np : Nat) (x : Str) (st : Stmt) (k : Nat) (m : Mf) : Prop := ∀ (f c T : Addr) (A : Around) (outer : List PySem.Env) (s : Shared) (H : Hp) (E : XK), codeTab K x = some (c, T) → Room k (A.deeper (envOfC x (defScope st) s.heap.objs.size f (.ref c))) →
      ∃ b, PSsm (cxOf (L2.CX P w) P w K mg base N x (defScope st) f (.ref c) A outer s H E) (fun cls d _ H => E cls d H) (defBody st) b ∧ ∀ ds : List D, ds.length = np → runB b N.length ds = m ds
theorem cal_ofM {x : Str} {st : Stmt} {N ps : List Str} {k np : Nat} {m : Mf} (F : DfM K mg x st ps) (Sc : FnScope N ps (defScope st)) (hp : ps.length = np) (hbody : BdyM P w K mg base N np x st k m) : Cal P w K mg base (k + 1) x ps m := by
  obtain ⟨f, c, T, oc, od, kV, doc, pm, an, ct, osl, l, hc, hk, hg, hT, hb⟩ := F
  subst hp
  refine ⟨f, _, hg, hk, .all hb, fn_of l hc Sc (fun vs H Q E h => h.1) fun A outer s H vs Q E hr h => ?_⟩
  obtain ⟨b, h1, h2⟩ := hbody f c T A outer s H E hT hr
  exact ⟨_, h1, body_go h2 h⟩
end
theorem mkr_by {X : Cx} {x : Str} {T : LT} {params : Arguments} {body : Expr} {scope : Scope} {c P : Addr} (hct : codeTab X.K x = some (c, P)) (tbs : TBs X.K X.mg X.base) (nd : ((tabsK X.K).map (·.1)).Nodup) (hcode : X.env.code = .ref c) (qual : X.env.qual = x ++ ".<locals>.") (mem : decide ((x, lamN) ∈ makers) = true)
    (h1 : T.name = "<lambda>") (h2 : T.qual = innerName (x, lamN)) (h3 : T.params = params) (h4 : T.body = .expr body) (h5 : T.scope = scope) (dflt : defaultsOf params X.env = ([], [])) (free : NdefX.ndefB X.env.scope scope [] = true) : Mkr X x T params body scope :=
  ⟨⟨c, P, hct, hcode⟩, tbs, nd, of_decide_eq_true mem, qual, h1, h2, h3, h4, h5, dflt, NdefX.ndef_free free⟩
theorem nfr_by {T : LT} (h : (T.scope.names.all fun y => !decide (y.2 = .free) || decide (y.1 ∈ T.fr)) = true) : ∀ y ∈ T.scope.names, y.2 = .free → y.1 ∈ T.fr := fun y hy e => by
  have z := List.all_eq_true.mp h y hy
  rw [e] at z
  simpa using z
theorem caps_by {X : Cx} {T : LT} {js : List Nat} {cl : List (Str × Addr)} (hcl : cl = cloFrom X.env.cells T.scope.names []) (h : NdefX.ndefB X.env.scope T.scope T.fr = true) (hjs : js.map (fun j => X.N[j]?) = T.fr.map some) : X.Ok → NdefX.Caps X cl T.fr js := fun ok => by
  rw [hcl]
  exact NdefX.Caps.made ok (NdefX.ndef_free h) (NdefX.ndef_fr h) hjs
/-! ### the words of a lambda that a def hands on in its last row -/
def findLam (b : List Stmt) : Option (Arguments × Expr × Scope) := match b.getLast? with
  | some (.Return (some (.Call _ as _ _)) _) => (match as.getLast? with
    | some (.Lambda a e s _) => some (a, e, s)
    | _ => none)
  | _ => none
def lamBody (b : List Stmt) : Expr := match findLam b with
  | some (_, e, _) => e
  | none => .Constant .none 0 ⟨0, 0, 0, 0⟩
def lamOf (x : Str) (b : List Stmt) (ps fr : List Str) : LT := match findLam b with
  | some (a, e, s) => ⟨lamN, innerName (x, lamN), a, .expr e, s, ps, fr⟩
  | none => ⟨lamN, lamN, ⟨[], [], none, [], [], none, []⟩, .stmts [], { kind := .function, names := [], isGenerator := false, isCoroutine := false, more := [] }, ps, fr⟩
/-! ### the end of a law -/
def tabCs (K : PySem.W.Frag) : List (Addr × Addr) := makers.filterMap fun x => codeTab K x.1
def tabChk (K : PySem.W.Frag) (ts : List Addr) : Bool := (tabCs K).all fun p => PySem.W.codeHdIn K p.1 p.2 && (K.lookup p.2).isNone && ts.contains p.2
theorem lawAt {l : PySem.W.OpenLaw} {w : World} {K : PySem.W.Frag} {k : Nat} {x : Str} {mg : Str → Option Value} {fa : Addr} {h : Heap} {ts : List Addr} (hk : tabChk K ts = true) (hts : ∀ P ∈ ts, h.get? P = some (PySem.W.tabObj #[])) (KX : K.In h)
    (F : ∃ fd : FuncData, (∀ (s : Shared) (u : Value), BindsTo s fd ⟨[u], []⟩ [(x, u)]) ∧ ∀ base : Heap, K.In base → base.Ns mainGlobals mg → TBs K mg base → FnOk l.prog w K mg base (L2.CX l.prog w) k fa fd [x] (spLaw K)) : LamX.LawAtS l w K (L2.CX l.prog w) k 63 x mg fa h := by
  obtain ⟨fd, hb, F⟩ := F
  have chk : ∀ p ∈ tabCs K, PySem.W.codeHdIn K p.1 p.2 = true ∧ K.lookup p.2 = none ∧ p.2 ∈ ts := fun p hp => by
    have z := List.all_eq_true.mp hk p hp
    simp only [Bool.and_eq_true, Option.isNone_iff_eq_none, List.contains_iff_mem] at z
    exact ⟨z.1.1, z.1.2, z.2⟩
  refine ⟨fd, tabCs K, spLaw K, fun p hp => hts _ (chk p hp).2.2, fun p hp => (chk p hp).2.1, fun p hp => PySem.W.codeHd_of_K KX (chk p hp).1, hb, fun H a ns hl _ hT hS => ⟨a, ns, rfl, hS, hl, fun p hp => ?_, fun _ => rfl⟩, fun base hB hG hT => F base hB hG fun x hx p hp => hT p (List.mem_filterMap.mpr ⟨x, hx, hp⟩)⟩
  obtain ⟨y, hy, e⟩ := List.mem_filterMap.mp hp
  cases q : codeTab K y.1 with
  | none => rw [q] at e; cases e
  | some r =>
    rw [q] at e
    cases e
    exact LamX.TabS.nil (hT r (List.mem_filterMap.mpr ⟨y, hy, q⟩))
end Pm
namespace Pm
open PySem PySem.Spec PyProof.Rows L2

/-! ### inner functions with cells of their own beside the captured ones -/
theorem cells_app : ∀ (names : List (Str × NameKind)) (n : Nat) (acc : List (Str × Addr)), cellsFrom n names acc = cellsFrom n names [] ++ acc
  | [], _, _ => rfl
  | (x, k) :: r, n, acc => by
    unfold cellsFrom
    cases hk : (k == NameKind.cell) with
    | true =>
      simp only [if_true]
      rw [cells_app r (n + 1) ((x, n) :: acc), cells_app r (n + 1) [(x, n)], List.append_assoc]
      rfl
    | false => simpa using cells_app r n acc
section
variable {M : Model} {A : Around} {E : Value → Shared → Prop} {s₀ s : Shared} {m cm : Str → Option Value} {env : PySem.Env} {cs : List (Str × Addr)}
/-- a name of its own is set: a local one, or one in a cell -/
theorem mix_store {n : Str} {v : Value} {Q : Unit → Shared → Prop} (hcs : ∀ n c, cs.lookup n = some c → env.cells.lookup n = some c) (x : InCallC s₀ env.locals m cs cm s) (hk : env.scope.kind = .function) (hn : env.kindOf n = some .local ∨ (env.kindOf n = some .cell ∧ ∃ c, cs.lookup n = some c))
    (h : ∀ s', InCallC s₀ env.locals (bindL env.kindOf [(n, v)] m) cs (bindC env.kindOf [(n, v)] cm) s' → Q () s') : wpAny M A (storeName env n v) Q E s := by
  have ic := x.toInCall
  rcases hn with hl | ⟨hc, c, hcc⟩
  · unfold bindL bindC at h
    rw [if_pos hl, if_pos hl] at h
    refine wpAny_storeName_local hl ic.ns (fun h' n1 sb => h _ ?_) (by rw [hk]; rfl)
    obtain ⟨h0, t0, e0⟩ := ic.same
    subst e0
    have old : ∀ b o, s₀.heap.get? b = some o → h'.get? b = some o := fun b o q => by
      have lt := Nat.lt_of_lt_of_le (Heap.lt_size q) ic.fresh
      exact sb.extBut b o (Nat.ne_of_lt lt) (ic.keep b o q)
    exact ⟨⟨⟨h', _, rfl⟩, n1, old, ic.fresh⟩, fun k a q => (x.cell k a q).sameBut sb (Nat.ne_of_gt (x.above k a (PySem.mem_of_lookup q))), x.apart, x.above⟩
  · have nl : ¬ env.kindOf n = some .local := by rw [hc]; decide
    unfold bindL bindC at h
    rw [if_neg nl, if_neg nl] at h
    have up := x.above n c (PySem.mem_of_lookup hcc)
    refine wpAny_storeName_cell hk hc (hcs n c hcc) (x.cell n c hcc) fun h' c1 sb => h _ ?_
    obtain ⟨h0, t0, e0⟩ := ic.same
    subst e0
    have old : ∀ b o, s₀.heap.get? b = some o → h'.get? b = some o := fun b o q => by
      have lt := Nat.lt_trans (Nat.lt_of_lt_of_le (Heap.lt_size q) ic.fresh) up
      exact sb.extBut b o (Nat.ne_of_lt lt) (ic.keep b o q)
    refine ⟨⟨⟨h', _, rfl⟩, ic.ns.sameBut sb (Nat.ne_of_lt up), old, ic.fresh⟩, fun k a q => ?_, x.apart, x.above⟩
    show h'.IsCell a (if k = n then some v else cm k)
    by_cases z : k = n
    · subst z
      rw [hcc] at q; cases q
      rw [if_pos rfl]; exact c1
    · rw [if_neg z]
      exact (x.cell k a q).sameBut sb fun y => z (name_of_addr x.apart (PySem.mem_of_lookup q) (y ▸ PySem.mem_of_lookup hcc))
theorem bindL_cons (f : Str → Option NameKind) (p : Str × Value) (r : List (Str × Value)) (m : Str → Option Value) : bindL f (p :: r) m = bindL f r (bindL f [p] m) := rfl
theorem bindC_cons (f : Str → Option NameKind) (p : Str × Value) (r : List (Str × Value)) (m : Str → Option Value) : bindC f (p :: r) m = bindC f r (bindC f [p] m) := rfl
theorem mix_params (hcs : ∀ n c, cs.lookup n = some c → env.cells.lookup n = some c) (g : Str × Value → PUnit → Sem (ForInStep PUnit)) (hg : ∀ n v u, g (n, v) u = (do storeName env n v; pure (.yield ⟨⟩))) (hk : env.scope.kind = .function) :
    ∀ (b : List (Str × Value)) (m cm : Str → Option Value) (s : Shared) (Q : PUnit → Shared → Prop), InCallC s₀ env.locals m cs cm s → (∀ p ∈ b, env.kindOf p.1 = some .local ∨ (env.kindOf p.1 = some .cell ∧ ∃ c, cs.lookup p.1 = some c)) →
      (∀ s', InCallC s₀ env.locals (bindL env.kindOf b m) cs (bindC env.kindOf b cm) s' → Q ⟨⟩ s') → wpAny M A (forIn b ⟨⟩ g) Q E s
  | [], m, cm, s, Q, x, _, h => by rw [List.forIn_nil]; exact wpAny_pure (h s x)
  | (n, v) :: r, m, cm, s, Q, x, hb, h => by
    rw [List.forIn_cons, hg]
    refine wpAny_bind (wpAny_bind (mix_store hcs x hk (hb _ List.mem_cons_self) fun s1 x1 => wpAny_pure ?_))
    refine mix_params hcs g hg hk r _ _ s1 Q x1 (fun p hp => hb p (List.mem_cons_of_mem _ hp)) fun s2 x2 => h s2 ?_
    rw [bindL_cons, bindC_cons]
    exact x2
theorem mix_env {scope : Scope} {gl : Addr} {cl : List (Str × Addr)} {b : List (Str × Value)} {qual : Str} {fn : Option Addr} {code : Value} {bi : Addr} {Q : PySem.Env → Shared → Prop} (hk : scope.kind = .function)
    (hb : ∀ p ∈ b, scope.names.lookup p.1 = some .local ∨ (scope.names.lookup p.1 = some .cell ∧ ∃ c, (cellsFrom (s.heap.objs.size + 1) scope.names []).lookup p.1 = some c))
    (hQ : ∀ env, env = newEnv scope s.heap.objs.size gl (cellsFrom (s.heap.objs.size + 1) scope.names cl) qual fn code none bi →
      ∀ s', InCallC s env.locals (bindL env.kindOf b fun _ => none) (cellsFrom (s.heap.objs.size + 1) scope.names []) (bindC env.kindOf b fun _ => none) s' → Q env s') :
    wpAny M A (newFunctionEnv scope gl cl b qual fn code none bi) Q E s := by
  simp only [newFunctionEnv, Option.isSome_none, Bool.false_eq_true, if_false]
  refine wpAny_bind (wpAny_alloc (wpAny_bind (wpAny_layCells _ (fun name kind cells => by cases q : kind == NameKind.cell <;> simp [q]) _ _ _ _ ?_)))
  have sz : (s.heap.push { cls := .type "frame", data := .dict #[] }).objs.size = s.heap.objs.size + 1 := Heap.size_push ..
  have ok := cellsFrom_ok scope.names (s.heap.push { cls := .type "frame", data := .dict #[] }) (s.heap.objs.size + 1) [] ⟨fun _ _ z => (nomatch z), List.Pairwise.nil⟩ (Nat.le_of_eq sz.symm)
  rw [sz] at ok
  show wpAny M A _ _ E { s with heap := pushCells (s.heap.push { cls := .type "frame", data := .dict #[] }) scope.names }
  rw [show ({ s with heap := s.heap.push { cls := .type "frame", data := .dict #[] } } : Shared).heap.objs.size = s.heap.objs.size + 1 from sz]
  obtain ⟨env, he⟩ : ∃ env, env = newEnv scope s.heap.objs.size gl (cellsFrom (s.heap.objs.size + 1) scope.names cl) qual fn code none bi := ⟨_, rfl⟩
  have hl : env.locals = s.heap.objs.size := by rw [he]; rfl
  have hsc : env.scope = scope := by rw [he]; rfl
  have hce : env.cells = cellsFrom (s.heap.objs.size + 1) scope.names cl := by rw [he]; rfl
  have x0 : InCallC s env.locals (fun _ => none) (cellsFrom (s.heap.objs.size + 1) scope.names []) (fun _ => none) { s with heap := pushCells (s.heap.push { cls := .type "frame", data := .dict #[] }) scope.names } := by
    rw [hl]
    exact ⟨⟨⟨_, _, rfl⟩, (Heap.Ns.new s.heap (.type "frame")).keeps (pushCells_keeps _ _), fun b o q => pushCells_keeps _ _ b o (Heap.get?_push_of_some _ q), Nat.le_refl _⟩, fun n c q => (ok.empty n c (PySem.mem_of_lookup q)).1, ok.apart, fun n c q => (ok.empty n c q).2⟩
  refine wpAny_bind (mix_params (s₀ := s) (env := env) (cs := cellsFrom (s.heap.objs.size + 1) scope.names []) (fun n c q => ?_) _ (fun n v u => ?_) (by rw [hsc]; exact hk) b (fun _ => none) (fun _ => none) _ _ x0 (fun p hp => ?_) fun s' x => wpAny_pure ?_)
  · rw [hce, cells_app, List.lookup_append, q]; rfl
  · rw [he]; rfl
  · show env.scope.names.lookup p.1 = _ ∨ _
    rw [show env.kindOf p.1 = env.scope.names.lookup p.1 from rfl, hsc]
    exact hb p hp
  · have := hQ env he s' x
    rw [he] at this
    exact this
end
/-- its names: the parameters, local or in cells; then the captured ones; then its locals -/
structure MScope (N ps fr : List Str) (sc : Scope) : Prop where
  kind : sc.kind = .function
  co : sc.isCoroutine = false
  gen : sc.isGenerator = false
  nd : N.Nodup
  pre : N.take (ps.length + fr.length) = ps ++ fr
  par : ∀ x ∈ ps, sc.names.lookup x = some .local ∨ sc.names.lookup x = some .cell
  free : ∀ y ∈ sc.names, y.2 = .free → y.1 ∈ fr
  frk : ∀ x ∈ fr, sc.names.lookup x = some .free
  uni : ∀ y ∈ sc.names, y.2 = .cell → sc.names.lookup y.1 = some .cell
def mscB (N ps fr : List Str) (sc : Scope) : Bool :=
  decide (sc.kind = .function) && !sc.isCoroutine && !sc.isGenerator && decide N.Nodup && decide (N.take (ps.length + fr.length) = ps ++ fr) && ps.all (fun x => decide (sc.names.lookup x = some .local) || decide (sc.names.lookup x = some .cell)) && sc.names.all (fun y => !decide (y.2 = .free) || decide (y.1 ∈ fr)) && fr.all (fun x => decide (sc.names.lookup x = some .free))
    && sc.names.all (fun y => !decide (y.2 = .cell) || decide (sc.names.lookup y.1 = some .cell))
theorem mscope_by {N ps fr : List Str} {sc : Scope} (h : mscB N ps fr sc = true) : MScope N ps fr sc := by
  unfold mscB at h
  simp only [Bool.and_eq_true, Bool.not_eq_true', decide_eq_true_eq, List.all_eq_true, Bool.or_eq_true, decide_eq_false_iff_not] at h
  obtain ⟨⟨⟨⟨⟨⟨⟨⟨h1, h2⟩, h3⟩, h4⟩, h5⟩, h6⟩, h8⟩, h9⟩, h10⟩ := h
  exact ⟨h1, h2, h3, h4, h5, h6, fun y hy e => (h8 y hy).elim (fun z => absurd e z) id, h9, fun y hy e => (h10 y hy).elim (fun z => absurd e z) id⟩
theorem own_kind : ∀ (names : List (Str × NameKind)) (n : Nat) {y : Str} {c : Addr}, (y, c) ∈ cellsFrom n names [] → (y, NameKind.cell) ∈ names
  | [], _, _, _, h => nomatch h
  | (x, k) :: r, n, y, c, h => by
    unfold cellsFrom at h
    cases hk : (k == NameKind.cell) with
    | true =>
      rw [hk] at h
      simp only [if_true] at h
      rw [cells_app] at h
      rcases List.mem_append.mp h with q | q
      · exact List.mem_cons_of_mem _ (own_kind r _ q)
      · rw [List.mem_singleton] at q
        cases q
        rw [eq_of_beq hk]
        exact List.mem_cons_self
    | false =>
      rw [hk] at h
      exact List.mem_cons_of_mem _ (own_kind r _ (by simpa using h))
section
variable {P : Program} {w : World} {K : PySem.W.Frag} {mg : Str → Option Value} {base : Heap} {N : List Str} {T : LT} {f c : Addr} {A : Around} {outer : List PySem.Env} {s s1 : Shared} {H : Hp} {us : List Value} {vs : List V} {ws : List (Option V)} {cl : List (Str × Addr)}
theorem inv_mix (S : MScope N T.ps T.fr T.scope) (hd : A.handled = none) (e0 : Env0 P w K mg base A outer s H) (hl : vs.length = T.ps.length) (r : Vals vs us) (C : NdefX.CellsAt cl T.fr ws s.heap H)
    (x : InCallC s s.heap.objs.size (bindL (fun y => T.scope.names.lookup y) (T.ps.zip us) fun _ => none) (cellsFrom (s.heap.objs.size + 1) T.scope.names []) (bindC (fun y => T.scope.names.lookup y) (T.ps.zip us) fun _ => none) s1) :
    Inv (lcx P w K mg base N T (cellsFrom (s.heap.objs.size + 1) T.scope.names cl) c f A outer s H) [] (NdefX.startF N vs ws) H s1 := by
  have hpl : T.ps.length + T.fr.length ≤ N.length := by
    have q := congrArg List.length S.pre
    rw [List.length_take, List.length_append] at q
    omega
  obtain ⟨h1, tk, rfl, kp⟩ := x.done
  have hce : cellsFrom (s.heap.objs.size + 1) T.scope.names cl = cellsFrom (s.heap.objs.size + 1) T.scope.names [] ++ cl := cells_app _ _ _
  -- a cell is its own, or a captured one
  have split : ∀ {y a}, (cellsFrom (s.heap.objs.size + 1) T.scope.names cl).lookup y = some a → (cellsFrom (s.heap.objs.size + 1) T.scope.names []).lookup y = some a ∨ cl.lookup y = some a := fun {y a} e => by
    rw [hce, List.lookup_append] at e
    cases q : (cellsFrom (s.heap.objs.size + 1) T.scope.names []).lookup y with
    | some b => rw [q] at e; exact .inl e
    | none => rw [q] at e; exact .inr e
  have own : ∀ {y a}, (cellsFrom (s.heap.objs.size + 1) T.scope.names []).lookup y = some a → (cellsFrom (s.heap.objs.size + 1) T.scope.names cl).lookup y = some a := fun {y a} e => by
    rw [hce, List.lookup_append, e]; rfl
  have notown : ∀ {y}, T.scope.names.lookup y = some .free → (cellsFrom (s.heap.objs.size + 1) T.scope.names []).lookup y = none := fun {y} hy => by
    cases q : (cellsFrom (s.heap.objs.size + 1) T.scope.names []).lookup y with
    | none => rfl
    | some a =>
      have z := S.uni _ (own_kind _ _ (PySem.mem_of_lookup q)) rfl
      rw [hy] at z; cases z
  have cap : ∀ {y a}, T.scope.names.lookup y = some .free → cl.lookup y = some a → (cellsFrom (s.heap.objs.size + 1) T.scope.names cl).lookup y = some a := fun {y a} hy e => by
    rw [hce, List.lookup_append, notown hy]; exact e
  have old : ∀ {y a}, cl.lookup y = some a → a < s.heap.objs.size := fun {y a} e => by
    obtain ⟨_, v, o, ho, _⟩ := C.all y a e
    exact Heap.lt_size ho
  have noA : ∀ b : Addr, b ∉ (lcx P w K mg base N T (cellsFrom (s.heap.objs.size + 1) T.scope.names cl) c f A outer s H).ex := fun b z => absurd (show b ∈ ([] : List Addr) from z) (by simp)
  have cellK : ∀ {c : Addr} {v : Option Value}, s.heap.IsCell c v → h1.IsCell c v := fun {c v} ⟨o, ho, q⟩ => ⟨o, kp _ _ ho, q⟩
  refine ⟨⟨e0.mod, S.kind, rfl, rfl, Nat.le_refl _, fun y z a q1 q2 => ?_, fun y hy => ?_, fun y a z _ => Bool.noConfusion (show false = true from z), fun _ => hd, Around.frames_deeper e0.frames, .inr ⟨rfl, rfl⟩, fun b z => absurd z (noA b), e0.bs, e0.bsz, fun b _ _ => noA b, fun b z => absurd z (noA b), e0.funs, e0.frf⟩,
    rfl, e0.bare, Un.kept kp, ⟨_, x.toInCall.ns, fun i y v e1 e2 e3 => ?_⟩, fun y a e => ?_, e0.hok.fresh (Nat.le_refl _), fun y a e => ?_, fun q hq => absurd (show q ∈ ([] : List (Addr × Obj)) ++ [] from hq) (by simp), e0.hok.kept kp, ?_⟩
  · rcases split q1 with a1 | a1
    · rcases split q2 with a2 | a2
      · exact name_of_addr x.apart (PySem.mem_of_lookup a1) (PySem.mem_of_lookup a2)
      · exact absurd (Nat.lt_trans (x.above y a (PySem.mem_of_lookup a1)) (old a2)) (Nat.lt_irrefl _)
    · rcases split q2 with a2 | a2
      · exact absurd (Nat.lt_trans (x.above z a (PySem.mem_of_lookup a2)) (old a1)) (Nat.lt_irrefl _)
      · exact C.inj y z a a1 a2
  · have hy : T.scope.names.lookup y = some .cell ∨ T.scope.names.lookup y = some .free := hy
    rcases hy with hy | hy
    · obtain ⟨a, e⟩ := cell_has (n := s.heap.objs.size + 1) hy
      exact ⟨a, own e⟩
    · obtain ⟨i, hi⟩ := List.mem_iff_getElem?.mp (S.free _ (PySem.mem_of_lookup hy) rfl)
      obtain ⟨a, hc, _⟩ := C.has i y hi
      exact ⟨a, cap hy hc⟩
  · have e1 : N[i]? = some y := e1
    have clen := C.len
    unfold NdefX.startF at e2
    by_cases q1 : i < T.ps.length
    · have hq : (T.ps ++ T.fr)[i]? = some y := by
        rw [← S.pre, List.getElem?_take_of_lt (by omega)]
        exact e1
      rw [List.getElem?_append_left q1] at hq
      rw [List.getElem?_append_left (by rw [List.length_map]; omega), List.getElem?_map] at e2
      have ha : vs[i]? = some v := by
        cases e : vs[i]? with
        | none => rw [e] at e2; cases e2
        | some a => rw [e] at e2; cases e2; rfl
      obtain ⟨u, hu, rv⟩ := r.get ha
      have ndP : T.ps.Nodup := by
        have q := S.nd.sublist (List.take_sublist (T.ps.length + T.fr.length) N)
        rw [S.pre] at q
        exact (List.nodup_append.mp q).1
      refine ⟨u, rv, ?_⟩
      rcases S.par y (List.mem_of_getElem? hq) with k | k
      · exact .inl ⟨k, bindL_get ndP hq hu k⟩
      · obtain ⟨a, e⟩ := cell_has (n := s.heap.objs.size + 1) k
        have q := x.cell y a e
        rw [bindC_get ndP hq hu (by show T.scope.names.lookup y ≠ _; rw [k]; decide)] at q
        exact .inr ⟨.inl k, a, own e, q⟩
    · rw [List.getElem?_append_right (by rw [List.length_map]; omega), List.length_map] at e2
      by_cases q2 : i < T.ps.length + T.fr.length
      · have hq : (T.ps ++ T.fr)[i]? = some y := by
          rw [← S.pre, List.getElem?_take_of_lt (by omega)]
          exact e1
        rw [List.getElem?_append_right (by omega)] at hq
        rw [List.getElem?_append_left (by omega), hl] at e2
        obtain ⟨a, hc, hv⟩ := C.has (i - T.ps.length) y hq
        obtain ⟨u, ru, hu⟩ := hv v e2
        have fk := S.frk y (List.mem_of_getElem? hq)
        exact ⟨u, ru, .inr ⟨.inr fk, a, cap fk hc, cellK hu⟩⟩
      · rw [List.getElem?_append_right (by omega), List.getElem?_replicate] at e2
        split at e2 <;> cases e2
  · rcases split e with q | q
    · exact ⟨_, x.cell y a q⟩
    · obtain ⟨v, z⟩ := (C.all y a q).2
      exact ⟨v, cellK z⟩
  · rcases split e with q | q
    · exact e0.hok.fresh (Nat.le_of_lt (x.above y a (PySem.mem_of_lookup q)))
    · exact (C.all y a q).1
  · have clen := C.len
    unfold NdefX.startF
    show _ = N.length
    rw [List.length_append, List.length_append, List.length_map, List.length_replicate]
    omega
end
section
variable {P : Program} {w : World} {K : PySem.W.Frag} {mg : Str → Option Value} {base : Heap}
theorem lamOk_mix {N : List Str} {T : LT} {body : Expr} {m : List D → Mf} {k : Nat} (hx : T.body = .expr body) (S : MScope N T.ps T.fr T.scope)
    (hbind : ∀ (cl : List (Str × Addr)) (c : Addr) (doc pm ctv : Value) (us : List Value), us.length = T.ps.length → bindArgs (T.fd cl c doc pm ctv) ⟨us, []⟩ = pure (T.ps.zip us))
    (hbody : ∀ (f c : Addr) (cl : List (Str × Addr)) (A : Around) (outer : List PySem.Env) (s : Shared) (H : Hp), Room k (A.deeper (NdefX.envF (T.nf cl c) f s.heap.objs.size)) →
      ∃ b : Dn, PEm (lcx P w K mg base N T cl c f A outer s H) W0 body b ∧ ∀ ds as : List D, as.length = T.ps.length → ds.length = T.fr.length → b (slStart N.length (as ++ ds)) = m ds as) : LamOk P w K mg base (k + 1) T m := by
  intro A outer s H us vs cvs f c cl ds as ws B0 w0 w1 d hr e0 hf hc C r hl hw hbx hd rc ra hm
  have lim : s.heap.NoLimit := e0.mod.nolimit.keeps fun b o e => (e0.bs b o e).1
  obtain ⟨od, sl, doc, pm, ctv, ho⟩ := lamO_at e0.hok hf
  refine PySem.W.kla_callFunE hr.depth ho rfl S.co S.gen hx (NdefX.codeO_at e0.hok hc) ?_
  rw [hbind cl c doc pm ctv us (by rw [← r.length]; exact hl)]
  refine wpAny_pure (mix_env S.kind (fun ⟨n, _⟩ hy => ?_) fun env he s1 x => ?_)
  · rcases S.par n (List.of_mem_zip hy).1 with q | q
    · exact .inl q
    · exact .inr ⟨q, cell_has q⟩
  subst he
  refine ⟨lim.keeps x.toInCall.keep, ?_⟩
  show codeAny _ _ (.expr body (NdefX.envF (T.nf (cellsFrom (s.heap.objs.size + 1) T.scope.names cl) c) f s.heap.objs.size)) _ _
  obtain ⟨b, hb, hbm⟩ := hbody f c (cellsFrom (s.heap.objs.size + 1) T.scope.names cl) A outer s H (hr.deeper _)
  have I : Inv (lcx P w K mg base N T (cellsFrom (s.heap.objs.size + 1) T.scope.names cl) c f A outer s H) [] (NdefX.startF N vs (cvs.map some)) H s1 := inv_mix S hr.hd e0 hl r C x
  rw [startF_eq] at I
  obtain ⟨nO, en⟩ := env_start (N := N) hw hbx hd (ra.append rc)
  have hlen : cvs.length = T.fr.length := by have := C.len; rw [List.length_map] at this; exact this
  have q := hbm ds as (by rw [← ra.length]; exact hl) (by rw [← rc.length]; exact hlen)
  refine PySem.W.kla_codeExpr (wpAny_mono (hb.run [] _ _ H (fun v H' => ∃ ws', Post ws H ws' H' ∧ WR K ws' w1 H' ∧ DR K ws' (fun a => ws'.has a ∨ B0 a) H' v d) I ?_) (fun v s' hq => ?_) fun e s' hq => hq)
  · refine ⟨ws, B0, _, w0, en, ?_⟩
    rw [q, hm]
    intro ws' H' l e' v hv
    exact ⟨ws', ⟨l.wle, l.new, fun _ z => z.elim, fun a o h1 h2 _ => l.keep a o h1 h2 (nO a), l.ex⟩, e'.wr, hv.ret⟩
  · obtain ⟨v', H', J', rv, q⟩ := hq
    exact ⟨v', H', J'.os, J'.bare, J'.base, J'.hok, rv, q⟩
end
end Pm
namespace Pm
open PySem PySem.Spec PyProof.Rows L2

/-! ### keyword-only parameters with defaults -/
abbrev FunK (K : PySem.W.Frag) (x : Str) (st : Stmt) (kws : List (Str × V)) (f : Addr) (fd : FuncData) : Prop := FunD K x x (defArgs st) (defBody st) (defScope st) [] kws f fd
/-- the def x keeps the contract m of all its parameters -/
def CalK (P : Program) (w : World) (K : PySem.W.Frag) (mg : Str → Option Value) (base : Heap) (k : Nat) (x : Str) (st : Stmt) (ps : List Str) (kws : List (Str × V)) (m : Mf) : Prop := ∃ f fd, mg x = some (.ref f) ∧ FunK K x st kws f fd ∧ FnOk P w K mg base (L2.CX P w) k f fd ps (spF K mg ps.length m)
def DfK (K : PySem.W.Frag) (mg : Str → Option Value) (x : Str) (st : Stmt) (kws : List (Str × V)) : Prop := ∃ f fd, mg x = some (.ref f) ∧ FunK K x st kws f fd
/-- .. one that makes an inner function -/
def DfMK (K : PySem.W.Frag) (mg : Str → Option Value) (x : Str) (st : Stmt) (kws : List (Str × V)) : Prop := ∃ (f c T : Addr) (oc : Value) (od : Option Addr) (kV doc pm : Value) (an : Option Addr) (ct : Value) (osl : Array (Option Value)),
  K.lookup f = some ⟨oc, od, .func (PySem.W.fnOf x x (defArgs st) (defBody st) (defScope st) .none kV doc pm an (.ref c) ct), osl⟩ ∧ PySem.W.codeIn K (.ref c) x = true ∧ PySem.W.keepIn K (.ref f) = true ∧ mg x = some (.ref f) ∧ codeTab K x = some (c, T) ∧ KwdV K kV kws
section
variable {P : Program} {w : World} {K : PySem.W.Frag} {mg : Str → Option Value} {base : Heap}
theorem CalK.mono {j k : Nat} {x : Str} {st : Stmt} {ps : List Str} {kws : List (Str × V)} {m : Mf} (h : CalK P w K mg base j x st ps kws m) (l : j ≤ k) : CalK P w K mg base k x st ps kws m := by
  obtain ⟨f, fd, h1, h2, h3⟩ := h
  exact ⟨f, fd, h1, h2, h3.mono l⟩
theorem dfk_mk {x : Str} {st : Stmt} {f : Addr} {h : Heap} {kws : List (Str × V)} {oc : Value} {od an : Option Addr} {osl : Array (Option Value)} {kV doc pm cdv ct : Value} (X : K.In h) (G : h.Ns mainGlobals mg) (a : PySem.W.nsIn K mainGlobals x = some (some (.ref f)))
    (l : K.lookup f = some ⟨oc, od, .func (PySem.W.fnOf x x (defArgs st) (defBody st) (defScope st) .none kV doc pm an cdv ct), osl⟩) (c : PySem.W.codeIn K cdv x = true) (k : PySem.W.keepIn K (.ref f) = true) (kv : KwdV K kV kws) : DfK K mg x st kws :=
  ⟨f, _, PySem.W.mg_of X G a, ⟨⟨oc, od, .none, kV, doc, pm, an, cdv, ct, osl, rfl, l, c, .inl ⟨rfl, rfl⟩, kv⟩, k⟩⟩
theorem dfmk_mk {x : Str} {st : Stmt} {f c T : Addr} {h : Heap} {kws : List (Str × V)} {oc oc2 : Value} {od od2 an : Option Addr} {osl osl2 : Array (Option Value)} {kV doc pm ct : Value} {vs : Array Value} (X : K.In h) (G : h.Ns mainGlobals mg) (a : PySem.W.nsIn K mainGlobals x = some (some (.ref f)))
    (l : K.lookup f = some ⟨oc, od, .func (PySem.W.fnOf x x (defArgs st) (defBody st) (defScope st) .none kV doc pm an (.ref c) ct), osl⟩) (hc : PySem.W.codeIn K (.ref c) x = true) (k : PySem.W.keepIn K (.ref f) = true)
    (lc : K.lookup c = some ⟨oc2, od2, .fields vs, osl2⟩) (hT : (vs[11]? : Option Value) = some (.ref T)) (kv : KwdV K kV kws) : DfMK K mg x st kws :=
  ⟨f, c, T, oc, od, kV, doc, pm, an, ct, osl, l, hc, k, PySem.W.mg_of X G a, by unfold codeTab; rw [a]; simp only []; rw [l]; simp only []; rw [lc]; simp only []; rw [hT], kv⟩
/-- what stands in the dict of the keyword defaults -/
theorem kwd_nil {D : Addr} : ∀ q ∈ ([] : List (Str × V)), ∃ u, PySem.W.nsIn K D q.1 = some (some u) ∧ RelV q.2 u := fun q h => nomatch h
theorem kwd_cons {D : Addr} {y : Str} {v : V} {u : Value} {r : List (Str × V)} (e : PySem.W.nsIn K D y = some (some u)) (rv : RelV v u) (h : ∀ q ∈ r, ∃ u, PySem.W.nsIn K D q.1 = some (some u) ∧ RelV q.2 u) : ∀ q ∈ (y, v) :: r, ∃ u, PySem.W.nsIn K D q.1 = some (some u) ∧ RelV q.2 u := fun q hq => by
  rcases List.mem_cons.mp hq with z | z
  · rw [z]; exact ⟨u, e, rv⟩
  · exact h q z
theorem calK_of {x : Str} {st : Stmt} {N ps : List Str} {k np : Nat} {m : Mf} {kws : List (Str × V)} (F : DfK K mg x st kws) (Sc : FnScope N ps (defScope st)) (hp : ps.length = np) (hbody : Bdy P w K mg base N np x st k m) : CalK P w K mg base (k + 1) x st ps kws m := by
  obtain ⟨f, fd, hg, F⟩ := F
  subst hp
  refine ⟨f, fd, hg, F, F.ok Sc (fun vs H Q E h => h.1) fun cdv A outer s H vs Q E hr h => ?_⟩
  obtain ⟨b, h1, h2⟩ := hbody f cdv A outer s H E hr
  exact ⟨_, h1, body_go h2 h⟩
theorem calMK_of {x : Str} {st : Stmt} {N ps : List Str} {k np : Nat} {m : Mf} {kws : List (Str × V)} (F : DfMK K mg x st kws) (Sc : FnScope N ps (defScope st)) (hp : ps.length = np) (hbody : BdyM P w K mg base N np x st k m) : CalK P w K mg base (k + 1) x st ps kws m := by
  obtain ⟨f, c, T, oc, od, kV, doc, pm, an, ct, osl, l, hc, hk, hg, hT, kv⟩ := F
  subst hp
  refine ⟨f, _, hg, ⟨⟨oc, od, .none, kV, doc, pm, an, .ref c, ct, osl, rfl, l, hc, .inl ⟨rfl, rfl⟩, kv⟩, hk⟩, fn_of l hc Sc (fun vs H Q E h => h.1) fun A outer s H vs Q E hr h => ?_⟩
  obtain ⟨b, h1, h2⟩ := hbody f c T A outer s H E hT hr
  exact ⟨_, h1, body_go h2 h⟩
end
/-! ### the calls -/
def selK {α : Type} (b : Bool) (ms ws : List α) : List α := if b then ms ++ ws else ws ++ ms
def fCalK (m : Mf) (b : Bool) (mds : List D) (g gk : M (List D)) : M D := g.bind fun ds => gk.bind fun zs => m (ds ++ selK b mds zs)
section
variable {X : Cx} {Wx : WX} {e : Expr} {es : List Expr} {pos p : Pos} {x : Str} {g gk : An} {kas : List Keyword}
abbrev PKm (X : Cx) (Wx : WX) (kas : List Keyword) (f : An) : Prop := PK X kas (tA X.K X.mg Wx f)
theorem mk_nil : PKm X Wx [] (fun _ => fNil) := ⟨fun pos pins s σ H Q I ⟨ws, B0, sl, w, e, h⟩ => pk_nil.run pos pins s σ H Q I (runAt.here e h [] .nil)⟩
theorem mk_cons {nm : Option Str} {kpos : Pos} {f : Dn} (ha : PEm X Wx e f) (hr : PKm X Wx kas gk) : PKm X Wx (⟨nm, e, kpos⟩ :: kas) (fun sl => fCons (f sl) (gk sl)) := by
  have h := pk_cons (nm := nm) (kpos := kpos) ha hr
  refine ⟨fun pos pins s σ H Q I ⟨ws, B0, sl, w, e, q⟩ => h.run pos pins s σ H Q I ?_⟩
  refine ⟨ws, B0, sl, w, e, (runAt.bind q).mono fun ws1 w1 d H1 l1 e1 h1 v hv => ?_⟩
  refine ⟨ws1, B0, sl, w1, e1, (runAt.bind h1).mono fun ws2 w2 ds H2 l2 e2 h2 vs hvs => ?_⟩
  exact runAt.here e2 h2 (v :: vs) (.cons (hv.le l2) hvs)
theorem sel_vals {b : Bool} {mz zs : List V} {mv ws : List Value} (h1 : Vals mz mv) (h2 : Vals zs ws) : Vals (selK b mz zs) (selK b mv ws) := by
  cases b
  · exact h2.append h1
  · exact h1.append h2
theorem sel_drs {K : PySem.W.Frag} {ws : Wa} {B : Addr → Prop} {H : Hp} {b : Bool} {mz zs : List V} {md zd : List D} (h1 : DRs K ws B H mz md) (h2 : DRs K ws B H zs zd) : DRs K ws B H (selK b mz zs) (selK b md zd) := by
  cases b
  · exact h2.append h1
  · exact h1.append h2
theorem sel_len {α : Type} {b : Bool} {x y : List α} : (selK b x y).length = x.length + y.length := by
  cases b
  · show (y ++ x).length = _; rw [List.length_append]; omega
  · exact List.length_append
/-- x(.., k = e, ..) -/
theorem m_calK {k np : Nat} {ps ks : List Str} {kws ms : List (Str × V)} {mds : List D} {m : Mf} {st : Stmt} (b : Bool) (C : CalK X.prog X.w X.K X.mg X.base k x st ps kws m) (hr : Room k X.A) (tk : Takes X Wx) (ha : PAm X Wx (e :: es) g) (hn : Cnt np g) (hkw : PKm X Wx kas gk) (hnk : Cnt ks.length gk) (hne : kws ≠ []) (hms : ∀ q ∈ ms, q ∈ kws)
    (hmd : ∀ ws B H, DRs X.K ws B H (ms.map (·.2)) mds) (hlen : np + (ms.length + ks.length) = ps.length)
    (hch : ∀ (D : Addr) (doc pm : Value) (an : Option Addr) (cdv ct : Value) (us mv ws : List Value), us.length = np → mv.length = ms.length → ws.length = ks.length →
      KwChain D ((ms.map (·.1)).zip mv) (bindArgs (PySem.W.fnOf x x (defArgs st) (defBody st) (defScope st) .none (.ref D) doc pm an cdv ct) ⟨us, ks.zip ws⟩) (ps.zip (us ++ selK b mv ws)))
    (hg : Gl X x := by rfl) (hall : (backToKw pos (keywordEach kas X.env)).all (·.1.isSome) = true := by rfl) (hks : (backToKw pos (keywordEach kas X.env)).filterMap (·.1) = ks := by rfl)
    (hdb : (x == ("__debug__" : Str)) = false := by decide) (he : starEach (e :: es) X.env = (false, eval e X.env) :: starEach es X.env := by rfl)
    (hpl : ((backTo pos (starEach (e :: es) X.env)).any (·.1) || (backToKw pos (keywordEach kas X.env)).any (·.1.isNone)) = false := by rfl) :
    PEm X Wx (.Call (.Name x p) (e :: es) kas pos) (fun sl => fCalK m b mds (g sl) (gk sl)) := by
  obtain ⟨f, fd, hm0, F, FO⟩ := C
  obtain ⟨mv, KB⟩ := F.kbinds0 np ks ms (fun us mz ws => us ++ selK b mz ws) hne hms (fun r1 r2 r3 => r1.append (sel_vals r2 r3)) hch
  refine ⟨fun pins s σ H Q I h => ?_⟩
  obtain ⟨ws, B0, sl, w, en, h⟩ := h
  have h1 := runAt.bind h
  have t1 : tA X.K X.mg Wx g σ H (fun vs H1 => ∃ ws1 w1 ds, ds.length = np ∧ Env X.K ws1 B0 sl w1 σ H1 ∧ DRs X.K ws1 (Bad ws1 B0 sl σ) H1 vs ds ∧
      runAt X.K X.mg Wx ws1 B0 sl σ H1 (M.bind (gk sl) (fun zs => m (ds ++ selK b mds zs)) w1) fun ws' _ d H' => ∀ v, DR X.K ws' (Bad ws' B0 sl σ) H' v d → Q v H') := by
    refine ⟨ws, B0, sl, w, en, ?_⟩
    cases qg : g sl w with
    | bad => rw [qg] at h1; exact h1
    | ex c w1 => rw [qg] at h1; exact h1
    | ok ds w1 =>
      rw [qg] at h1
      exact fun ws1 H1 l1 e1 vs hv => ⟨ws1, w1, ds, hn _ _ _ _ qg, e1, hv, h1 ws1 H1 l1 e1⟩
  refine wpAny_Call_Name_kw (ld_glob I hg hm0 ?_ hdb)
  refine PySem.W.callWith_KW (h₀ := X.base) I.ok.mod.kin F.kp hall (thn (ha.run pos pins s σ H _ I t1) fun us s1 ⟨vs, H1, I1, r, ws1, w1, ds, hl1, e1, hv, h2⟩ => ?_) hpl he
  have h3 := runAt.bind h2
  have t2 : tA X.K X.mg Wx gk σ H1 (fun zs H2 => ∃ ws2 w2 zd, zd.length = ks.length ∧ Le ws1 (Own sl σ) H1 ws2 (Own sl σ) H2 ∧ Env X.K ws2 B0 sl w2 σ H2 ∧ DRs X.K ws2 (Bad ws2 B0 sl σ) H2 zs zd ∧
      runAt X.K X.mg Wx ws2 B0 sl σ H2 (m (ds ++ selK b mds zd) w2) fun ws' _ d H' => ∀ v, DR X.K ws' (Bad ws' B0 sl σ) H' v d → Q v H') := by
    refine ⟨ws1, B0, sl, w1, e1, ?_⟩
    cases qg : gk sl w1 with
    | bad => rw [qg] at h3; exact h3
    | ex c w2 => rw [qg] at h3; exact h3
    | ok zd w2 =>
      rw [qg] at h3
      exact fun ws2 H2 l2 e2 zs hz => ⟨ws2, w2, zd, hnk _ _ _ _ qg, l2, e2, hz, h3 ws2 H2 l2 e2⟩
  refine thn (hkw.run pos pins s1 σ H1 _ I1 t2) fun wz s2 ⟨zs, H2, I2, rz, ws2, w2, zd, hl2, l2, e2, hz, h4⟩ => ⟨I2.kIn, ?_⟩
  rw [hks]
  have hvs : vs.length = np := by rw [hv.length]; exact hl1
  have hzs : zs.length = ks.length := by rw [hz.length]; exact hl2
  have hsp : spF X.K X.mg ps.length m (vs ++ selK b (ms.map (·.2)) zs) H2 Q (WE Wx σ) := by
    refine ⟨by rw [List.length_append, sel_len, List.length_map, hvs, hzs]; exact hlen, ws2, fun a => B0 a ∨ Own sl σ a, w2, ds ++ selK b mds zd, e2.wr, e2.bxs, fun a z => e2.bad a (.inr z), (hv.le l2).append (sel_drs (hmd _ _ _) hz), ?_⟩
    cases q : m (ds ++ selK b mds zd) w2 with
    | bad => rw [q] at h4; exact h4
    | ok d w3 =>
      rw [q] at h4
      intro v ws' H' po hw hd
      obtain ⟨l3, e3⟩ := e2.after po hw
      exact h4 ws' H' l3 e3 v hd
    | ex c w3 =>
      rw [q] at h4
      intro ws' H' C hC po hw
      obtain ⟨l3, e3⟩ := e2.after po hw
      exact h4 ws' H' C hC l3 e3
  refine wpAny_call (codeAny_mono (FO.run X.A X.stack s2 H2 ⟨us, ks.zip wz⟩ _ _ Q (WE Wx σ) hr I2.env0 (KB.to s2 us wz I2.kIn (by rw [← r.length]; exact hvs) (by rw [← rz.length]; exact hzs)) (KB.rel r rz) hsp) fun res s' hq => ?_)
  cases res with
  | error e => exact passAt tk σ pins H2 s2 e s' I2 hq
  | ok fl =>
    cases fl with
    | ret u => exact I2.after hq
    | next => exact False.elim hq
    | brk => exact False.elim hq
    | cont => exact False.elim hq
end
end Pm
namespace Pm
open PySem PySem.Spec PyProof.Rows L2

/-! ### def x(..): .. within a def, handed on in the last row -/
section
variable {X : Cx} {pins : List (Addr × Obj)} {σ : L2.St} {H : Hp} {s : Shared}
theorem def_make {TT : List (Addr × Str)} {name q : Str} {c P : Addr} {params : Arguments} {body : List Stmt} {scope : Scope} {pos : Pos} {T : LT} {E Q : Value → Shared → Prop} (I : Inv X pins σ H s) (tb : LamX.TabB X.base X.mg c P) (hcode : X.env.code = .ref c) (hm : (P, q) ∈ TT)
    (hu : ∀ p ∈ TT, p.1 = P → p.2 = q) (hT : LamX.Tabs TT H) (hfree : ∀ y ∈ scope.names, y.2 = .free → ∃ c, X.env.cells.lookup y.1 = some c)
    (h1 : T.name = name) (h2 : T.qual = q) (h3 : T.params = params) (h4 : T.body = .stmts body) (h5 : T.scope = scope)
    (h : ∀ (f c' : Addr) (H1 : Hp) (s' : Shared), Inv X pins σ H1 s' → (∀ b o, H b = some o → b ≠ P → H1 b = some o) → (∀ b, H1 b = none → H b = none) → LamX.Tabs TT H1 → H f = none → H1 f = some (LamO f T (cloFrom X.env.cells scope.names []) c') → H1 c' = some (LamX.CodeO c' T.qual) → Q (.ref f) s') :
    wpAny (model X.prog X.w) X.A (makeFunction name q params (.stmts body) scope X.env [] [] [] pos pos.line) Q E s := by
  obtain ⟨tn, tq, tp, tbd, ts, tps, tfr⟩ := T
  subst h1 h2 h3 h4 h5
  obtain ⟨ps, hP, ht, ha⟩ := hT _ hm
  have bP : s.heap.BuiltinsAt X.mg P := tb.bm.keeps I.bk
  have hP' : s.heap.get? P = some { cls := .none, data := .fields ps } := I.hok P _ hP
  cases hc : codeAmong pos ps.toList with
  | none =>
    refine PySem.W.makeFunction_K (mg := X.mg) (c := c) (P := P) (ps := ps) (closure_ok hfree) I.ok.glob (I.mod.glob.keeps I.bk) hcode (tb.code.keeps I.bk) hP' ht hc tb.gP bP fun c' ctv doc h' tk hx hge hlt hrec htb => ?_
    obtain ⟨c2, oc, vs, t, e2, hoc, hd, hv⟩ := hrec
    cases e2
    have nC : H c' = none := I.hok.fresh hge
    have nPC : P ≠ c' := ne_of_none hP nC
    have I1 := LamX.inv_table (t' := tk) (q := tq) (more := #[rawInt pos.line, rawInt pos.col, .ref c']) (h' := h') I hP (fun b o hb e => hx b o hb e) htb hge ⟨oc, vs, t, hoc, hd, hv⟩
    obtain ⟨H1, eH⟩ : ∃ H1, H1 = upd (upd H P (.tbl (ps ++ #[rawInt pos.line, rawInt pos.col, .ref c']))) c' (LamX.CodeO c' tq) := ⟨_, rfl⟩
    rw [← eH] at I1
    have k1 : ∀ b o, H b = some o → b ≠ P → H1 b = some o := fun b o e n => by rw [eH, upd_ne (ne_of_none e nC), upd_ne n]; exact e
    have nF : H1 h'.objs.size = none := I1.hok.fresh (Nat.le_refl _)
    have I2 := inv_lam (T := ⟨tn, tq, tp, .stmts body, ts, tps, tfr⟩) (cl := cloFrom X.env.cells ts.names []) (c := c') (doc := doc) (pm := (X.mg "__name__").getD .none) (ctv := ctv) (t' := tk) I1
    have up : ∀ b o, H1 b = some o → upd H1 h'.objs.size (LamO h'.objs.size ⟨tn, tq, tp, .stmts body, ts, tps, tfr⟩ (cloFrom X.env.cells ts.names []) c') b = some o := fun b o e => (upd_ne (ne_of_none e nF)).trans e
    have c1 : H1 c' = some (LamX.CodeO c' tq) := by rw [eH]; exact upd_same
    have dn : ∀ b, H1 b = none → H b = none := fun b e => by
      rw [eH] at e
      exact NdefX.upd_none (NdefX.upd_none e)
    have eL : (ps ++ #[rawInt pos.line, rawInt pos.col, .ref c']).toList = ps.toList ++ [rawInt pos.line, rawInt pos.col, .ref c'] := by simp
    have T1 : LamX.Tabs TT H1 := fun p hp => by
      by_cases hb : p.1 = P
      · rw [hu p hp hb, hb]
        refine ⟨_, by rw [eH, upd_ne nPC, upd_same], by rw [eL]; exact PySem.TriplesOk_snoc _ _ _ _ ht, fun p' cv hcv => ?_⟩
        rw [eL] at hcv
        rcases LamX.among_app _ ht hcv with z | z
        · obtain ⟨c0, e1, e2⟩ := ha p' cv z
          exact ⟨c0, e1, k1 _ _ e2 (fun z => by rw [z, hP] at e2; cases e2)⟩
        · exact ⟨c', z, c1⟩
      · obtain ⟨ps', a1, a2, a3⟩ := hT p hp
        refine ⟨ps', k1 _ _ a1 hb, a2, fun p' cv hcv => ?_⟩
        obtain ⟨c0, e1, e2⟩ := a3 p' cv hcv
        exact ⟨c0, e1, k1 _ _ e2 (fun z => by rw [z, hP] at e2; cases e2)⟩
    exact h h'.objs.size c' _ _ I2 (fun b o e n => up b o (k1 b o e n)) (fun b e => dn b (NdefX.upd_none e)) (T1.ext up) (dn _ nF) upd_same (up _ _ c1)
  | some cv =>
    obtain ⟨c', e, hco⟩ := ha pos cv hc
    subst e
    refine PySem.W.makeFunction_hit (mg := X.mg) (c := c) (P := P) (ps := ps) (closure_ok hfree) I.ok.glob (I.mod.glob.keeps I.bk) hcode (tb.code.keeps I.bk) hP' ht hc bP fun ctv doc h' tk hx hsz => ?_
    have I1 : Inv X pins σ H { s with heap := h', toks := tk } := I.kept hx
    have nF : H h'.objs.size = none := I1.hok.fresh (Nat.le_refl _)
    have I2 := inv_lam (T := ⟨tn, tq, tp, .stmts body, ts, tps, tfr⟩) (cl := cloFrom X.env.cells ts.names []) (c := c') (doc := doc) (pm := (X.mg "__name__").getD .none) (ctv := ctv) (t' := tk) I1
    have up : ∀ b o, H b = some o → upd H h'.objs.size (LamO h'.objs.size ⟨tn, tq, tp, .stmts body, ts, tps, tfr⟩ (cloFrom X.env.cells ts.names []) c') b = some o := fun b o e => (upd_ne (ne_of_none e nF)).trans e
    exact h h'.objs.size c' _ _ I2 (fun b o e _ => up b o e) (fun b e => NdefX.upd_none e) (hT.ext up) nF upd_same (up _ _ hco)
end
/-- the slot i holds the inner function; the rest as with lambdas -/
def tALn (X : Cx) (Wx : WX) (g : An) (T : LT) (cl : List (Str × Addr)) (i : Nat) : TA := fun σ H Q => ∃ ws B0 sl w f c, σ[i]? = some (some (.ref f)) ∧ H f = some (LamO f T cl c) ∧ H c = some (LamX.CodeO c T.qual) ∧ Env X.K ws B0 sl w σ H ∧ runAt X.K X.mg Wx ws B0 sl σ H (g sl w) fun ws' w' ds H' =>
  ∀ vs, DRs X.K ws' (Bad ws' B0 sl σ) H' vs ds → H' f = some (LamO f T cl c) → H' c = some (LamX.CodeO c T.qual) → Q (vs ++ [.ref f]) H'
/-- what the maker must know -/
structure MkrD (X : Cx) (x name : Str) (T : LT) (params : Arguments) (body : List Stmt) (scope : Scope) : Prop where
  tab : ∃ c P, codeTab X.K x = some (c, P) ∧ X.env.code = .ref c
  tbs : TBs X.K X.mg X.base
  nd : ((tabsK X.K).map (·.1)).Nodup
  mem : (x, name) ∈ makers
  qual : X.env.qual ++ name = innerName (x, name)
  h1 : T.name = name
  h2 : T.qual = innerName (x, name)
  h3 : T.params = params
  h4 : T.body = .stmts body
  h5 : T.scope = scope
  d0 : params.defaults = []
  k0 : params.kw_defaults = []
  an : annTrees params none X.env = []
  free : ∀ y ∈ scope.names, y.2 = .free → X.env.scope.names.lookup y.1 = some .cell ∨ X.env.scope.names.lookup y.1 = some .free
section
variable {X : Cx} {Wx : WX} {e : Expr} {es : List Expr} {pos p npos dpos : Pos} {x name : Str} {g : An} {T : LT} {params : Arguments} {body : List Stmt} {scope : Scope} {i : Nat} {cl : List (Str × Addr)}
theorem maln_one (hN : X.N[i]? = some name := by rfl) (hv : Vis X.env.scope name := by first | exact Or.inl rfl | exact Or.inr (Or.inl rfl) | exact Or.inr (Or.inr rfl)) (hd : (name == ("__debug__" : Str)) = false := by decide)
    (hcd : (name == ("__classdict__" : Str)) = false := by decide) (hs : starEach [.Name name npos] X.env = (false, eval (.Name name npos) X.env) :: starEach [] X.env := by rfl) : PA X [.Name name npos] (tALn X Wx (fun _ => M.pure []) T cl i) := by
  refine (pa_cons (pe_var hN hv hd hcd) pa_nil hs).mimp fun σ H Q ⟨ws, B0, sl, w, f, c, h1, h2, h3, en, h⟩ => ?_
  exact ⟨_, h1, runAt.here en h [] .nil h2 h3⟩
theorem maln_cons {f : Dn} (ha : PEm X Wx e f) (hr : PA X es (tALn X Wx g T cl i)) (hs : starEach (e :: es) X.env = (false, eval e X.env) :: starEach es X.env := by rfl) : PA X (e :: es) (tALn X Wx (fun sl => fCons (f sl) (g sl)) T cl i) := by
  refine (pa_cons ha hr hs).mimp fun σ H Q ⟨ws, B0, sl, w, f, c, h1, h2, h3, en, h⟩ => ?_
  have kf := en.nbx h2
  have kc := en.nbx h3
  refine ⟨ws, B0, sl, w, en, (runAt.bind h).mono fun ws1 w1 d H1 l1 e1 q1 v hv => ?_⟩
  have f1 := l1.keep f _ h2 (fun z => kf (.inl z)) (fun z => kf (.inr (.inr z)))
  have c1 := l1.keep c _ h3 (fun z => kc (.inl z)) (fun z => kc (.inr (.inr z)))
  refine ⟨ws1, B0, sl, w1, f, c, h1, f1, c1, e1, (runAt.bind q1).mono fun ws2 w2 ds H2 l2 e2 q2 vs r f2 c2 => ?_⟩
  exact runAt.here e2 q2 (v :: vs) (.cons (hv.le l2) r) f2 c2
/-- the call, its last argument the inner function in slot i -/
def tCN (X : Cx) (Wx : WX) (f : Dn) (T : LT) (cl : List (Str × Addr)) (i : Nat) : TE := fun σ H Q => ∃ ws B0 sl w f0 c, σ[i]? = some (some (.ref f0)) ∧ H f0 = some (LamO f0 T cl c) ∧ H c = some (LamX.CodeO c T.qual) ∧ Env X.K ws B0 sl w σ H ∧ runAt X.K X.mg Wx ws B0 sl σ H (f sl w) fun ws' w' d H' => ∀ v, DR X.K ws' (Bad ws' B0 sl σ) H' v d → Q v H'
theorem pe_calN {k np kk : Nat} {ps : List Str} {m : Mf} {js : List Nat} (C : Cal X.prog X.w X.K X.mg X.base k x ps m) (hp : ps.length = np + 1) (hr : Room k X.A) (ha : PA X (e :: es) (tALn X Wx g T cl i)) (hn : Cnt np g) (hfn : ∀ y, X.fn y = true)
    (hcl : cl = cloFrom X.env.cells T.scope.names []) (hfr : ∀ y ∈ T.scope.names, y.2 = .free → y.1 ∈ T.fr) (cp : X.Ok → NdefX.Caps X cl T.fr js)
    (hg : Gl X x := by rfl) (hdb : (x == ("__debug__" : Str)) = false := by decide) (he : starEach (e :: es) X.env = (false, eval e X.env) :: starEach es X.env := by rfl) (hpl : (backTo pos (starEach es X.env)).any (·.1) = false := by rfl) :
    PE X (.Call (.Name x p) (e :: es) [] pos) (tCN X Wx (fun sl => fCalL m kk T (capD js sl) (g sl)) T cl i) := by
  obtain ⟨f0, fd, hm0, hk0, hb0, F⟩ := C
  refine ⟨fun pins s σ H Q I h => ?_⟩
  obtain ⟨ws, B0, sl, w, fx, cx, hsx, hfx, hcx, en, h⟩ := h
  refine wpAny_Call_Name_kw (ld_glob I hg hm0 ?_ hdb)
  have ht : tALn X Wx g T cl i σ H (fun vs H2 => ∃ ws2 w2 ds vs0 f c, vs = vs0 ++ [.ref f] ∧ ds.length = np ∧ Le ws (Own sl σ) H ws2 (Own sl σ) H2 ∧ Env X.K ws2 B0 sl w2 σ H2 ∧ DRs X.K ws2 (Bad ws2 B0 sl σ) H2 vs0 ds ∧ H2 f = some (LamO f T cl c) ∧ H2 c = some (LamX.CodeO c T.qual) ∧
      runAt X.K X.mg Wx ws2 B0 sl σ H2 (((capD js sl).bind fun cds => (noEx (m (ds ++ [.fn kk T cds]))).bind fun d => if okd 40 d = true then M.pure d else M.bad) w2) fun ws' _ d H' => ∀ v, DR X.K ws' (Bad ws' B0 sl σ) H' v d → Q v H') := by
    refine ⟨ws, B0, sl, w, fx, cx, hsx, hfx, hcx, en, ?_⟩
    have h1 := runAt.bind h
    cases qg : g sl w with
    | bad => rw [qg] at h1; exact h1
    | ex c w1 => rw [qg] at h1; exact h1
    | ok ds w1 =>
      rw [qg] at h1
      exact fun ws2 H2 l2 e2 vs r f1 c1 => ⟨ws2, w1, ds, vs, fx, cx, rfl, hn _ _ _ _ qg, l2, e2, r, f1, c1, h1 ws2 H2 l2 e2⟩
  refine PySem.W.callWith_K (h₀ := X.base) I.ok.mod.kin hk0 (thn (ha.run pos pins s σ H _ I ht) fun us s2 ⟨vs, H2, I2, r, ws2, w2, ds, vs0, f, c, ev, hlen, l2, e2, rd, f1, c1, h2⟩ => ⟨I2.kIn, ?_⟩) he hpl
  subst ev
  have h3 := runAt.bind h2
  cases qc : capD js sl w2 with
  | bad => rw [qc] at h3; exact h3.elim
  | ex c w3 => exact absurd qc (cap_noex js)
  | ok cds w3 =>
  rw [qc] at h3
  obtain ⟨rfl, cvs, hjs, rcv⟩ := cap_vals e2 js cds qc
  have h4 := runAt.bind (runAt.here e2 h3)
  cases qm : noEx (m (ds ++ [.fn kk T cds])) w3 with
  | bad => rw [qm] at h4; exact h4.elim
  | ex c w4 => exact absurd qm noEx_ex
  | ok d w4 =>
  rw [qm] at h4
  have CA : NdefX.CellsAt cl T.fr (cvs.map some) s2.heap H2 := by rw [← hjs]; exact NdefX.cells_of I2 (cp I2.ok)
  obtain ⟨S, eS⟩ : ∃ S : Addr → Prop, S = fun a => ∃ y, cl.lookup y = some a := ⟨_, rfl⟩
  have hS : ∀ a, S a → H2 a = none ∧ ∃ o, s2.heap.get? a = some o := fun a z => by
    rw [eS] at z
    obtain ⟨y, z⟩ := z
    obtain ⟨z1, v, o, z2, _⟩ := CA.all y a z
    exact ⟨z1, o, z2⟩
  have above : ∀ a, S a → X.s_0.heap.objs.size ≤ a := fun a z => by
    rw [eS] at z
    obtain ⟨y, z⟩ := z
    exact I2.ok.cab y a (hfn y) ((cp I2.ok).sub y a z)
  have e0 := I2.env0
  have gS : Grow H2 (shw H2 S (knw s2.heap)) := shw_grow fun a z => (hS a z).1
  have notS : ∀ {a : Addr} {o : HO}, H2 a = some o → ¬ S a := fun {a o} z y => by rw [(hS a y).1] at z; cases z
  have e1 : Env0 X.prog X.w X.K X.mg X.base X.A X.stack s2 (shw H2 S (knw s2.heap)) := by
    refine ⟨e0.frames, e0.mod, fun b o z => ⟨(e0.bs b o z).1, ?_⟩, e0.bsz, e0.funs, fun b z => ?_, shw_ok hS e0.hok, e0.bare⟩
    · rw [shw_out (fun y => absurd (Nat.lt_of_lt_of_le (Heap.lt_size z) (Nat.le_trans I2.ok.bsz (above b y))) (Nat.lt_irrefl _))]
      exact (e0.bs b o z).2
    · rw [shw_out (fun y => ?_)]
      · exact e0.frf b z
      · rcases List.mem_cons.mp (I2.stkSub b z) with q | q
        · rw [eS] at y
          obtain ⟨n, y⟩ := y
          exact I2.cne n b ((cp I2.ok).sub n b y) q
        · obtain ⟨_, o, ho, _⟩ := I2.ok.funs.mem q
          exact absurd (Nat.lt_of_lt_of_le (Heap.lt_size ho) (above b y)) (Nat.lt_irrefl _)
  have nB : ∀ a, S a → ¬ Bad ws2 B0 sl σ a := fun a z => e2.fresh (hS a z).1
  have cellH : CellH (Bad ws2 B0 sl σ) (shw H2 S (knw s2.heap)) cl T.fr cvs := by
    refine ⟨by have := CA.len; rw [List.length_map] at this; exact this, CA.inj, fun y c z => ?_, fun i y z => ?_⟩
    · rw [hcl] at z
      rcases cloFrom_mem (PySem.mem_of_lookup z) with q | ⟨q, _⟩
      · cases q
      · exact hfr _ q rfl
    · obtain ⟨c, z1, z2⟩ := CA.has i y z
      have inS : S c := by rw [eS]; exact ⟨y, z1⟩
      have hi : i < cvs.length := by
        have q := CA.len
        rw [List.length_map] at q
        rw [q]
        exact (List.getElem?_eq_some_iff.mp z).1
      obtain ⟨u, ru, o, ho, hd⟩ := z2 cvs[i] (by rw [List.getElem?_map, List.getElem?_eq_getElem hi]; rfl)
      refine ⟨c, o, u, z1, nB c inS, by rw [shw_in inS]; exact knw_at ho, hd, fun v hv => ?_⟩
      rw [List.getElem?_eq_getElem hi] at hv
      cases hv
      exact ru
  have drf : DR X.K ws2 (Bad ws2 B0 sl σ) (shw H2 S (knw s2.heap)) (.ref f) (.fn kk T cds) := .fn (e2.nbx f1) (gS _ _ f1) (e2.nbx c1) (gS _ _ c1) cellH (rcv.grow gS)
  have hsp : spF X.K X.mg ps.length m (vs0 ++ [.ref f]) (shw H2 S (knw s2.heap)) (fun v H' => ∃ ws', Post ws2 (shw H2 S (knw s2.heap)) ws' H' ∧ WR X.K ws' w4 H' ∧ DR X.K ws' (fun a => ws'.has a ∨ (B0 a ∨ Own sl σ a)) H' v d) (fun _ _ _ => False) := by
    refine ⟨?_, ws2, fun a => B0 a ∨ Own sl σ a, w3, ds ++ [.fn kk T cds], e2.wr.grow gS, ?_, ?_, (rd.grow gS).append (.one drf), ?_⟩
    · rw [List.length_append, rd.length, hlen, hp]; rfl
    · exact (e2.grow gS).bxs
    · exact fun a z => (e2.grow gS).bad a (.inr z)
    · rw [noEx_ok qm]
      exact fun v ws' H' po hw hv => ⟨ws', po, hw, hv⟩
  have hul : us.length = ps.length := by rw [← r.length]; exact F.len _ _ _ _ hsp
  have b := hb0 s2 us I2.kIn (by rw [List.append_nil]; exact hul)
  rw [List.append_nil] at b
  refine wpAny_call (codeAny_mono (F.run X.A X.stack s2 _ ⟨us, []⟩ us _ _ _ hr e1 b r hsp) fun res s' hq => ?_)
  cases res with
  | error e => obtain ⟨_, _, _, _, _, _, _, _, _, _, _, _, z⟩ := hq; exact z.elim
  | ok fl =>
    cases fl with
    | next => exact False.elim hq
    | brk => exact False.elim hq
    | cont => exact False.elim hq
    | ret u =>
      obtain ⟨v, H', os, bare, un, hok', rv, ws3, post, hw3, hdr3⟩ := hq
      obtain ⟨un2, hok2, known⟩ := un_show hS un hok'
      have po : Post ws2 H2 ws3 (hid H' S) := by
        refine ⟨post.wle, fun a z => ?_, fun _ z => z.elim, fun a o h1 h2 h3 => ?_, fun a z => ?_⟩
        · rcases post.new a z with y | y
          · exact .inl y
          · by_cases q : S a
            · exact .inr (hS a q).1
            · rw [shw_out q] at y; exact .inr y
        · rw [hid_out (notS h1)]
          exact post.keep a o (gS a o h1) h2 h3
        · by_cases q : S a
          · exact (hS a q).1
          · rw [hid_out q] at z
            exact gS.ex a (post.ex a z)
      have nh : ∀ a, S a → ¬ ws3.has a := fun a q z => by
        have hw := hw3
        obtain ⟨o, ko⟩ := known a q
        rcases z with z | z | z
        · have ht := hw.1
          unfold TW at ht
          rw [z] at ht
          cases qt : w4.town with
          | none => rw [qt] at ht; exact ht.elim
          | some l =>
            rw [qt] at ht
            have ht : H' a = some (.lst (l.map V.int)) := ht
            rw [ko] at ht; cases ht
        · rw [hw.2.1] at z
          obtain ⟨p, hp, rfl⟩ := List.mem_map.mp z
          obtain ⟨ps, y, _⟩ := hw.2.2 p hp
          rw [ko] at y; cases y
        · obtain ⟨vs, y⟩ := hw.3.lv_lst z
          rw [ko] at y; cases y
      obtain ⟨l4, e4⟩ := e2.after po (hw3.hid nh known)
      refine I2.after ⟨v, hid H' S, os, bare, un2, hok2, rv, ?_⟩
      have h6 := h4 ws3 _ l4 e4
      dsimp only at h6
      by_cases z : okd 40 d = true
      · rw [if_pos z] at h6
        exact runAt.here e4 h6 v (okd_keep (fun a u y _ => hid_rd known y) (fun a u y _ => hid_lst known y) (fun a _ y => y) 40 v d z hdr3)
      · rw [if_neg z] at h6
        exact h6.elim
/-- def name(..): ..; return x(.., name) -/
def fDefR (i : Nat) (f : Dn) : Dn := fun sl => match sl[i]? with
  | some .no => f sl
  | _ => M.bad
theorem Env.setn {K : PySem.W.Frag} {ws : Wa} {B0 : Addr → Prop} {sl : Ls} {w : W} {σ : L2.St} {H : Hp} {i : Nat} {v : V} (e : Env K ws B0 sl w σ H) (h : sl[i]? = some .no) : (∀ a, Own sl (σ.set i (some v)) a ↔ Own sl σ a) ∧ Env K ws B0 sl w (σ.set i (some v)) H := by
  have ne : ∀ {j : Nat} {z : Sl}, sl[j]? = some z → z ≠ .no → i ≠ j := fun {j z} hj hz q => by
    subst q
    rw [h] at hj
    cases hj
    exact hz rfl
  have hO : ∀ a, Own sl (σ.set i (some v)) a ↔ Own sl σ a := fun a => ⟨fun ⟨j, d, h1, h2⟩ => ⟨j, d, h1, by rw [List.getElem?_set_ne (ne h1 (fun z => by cases z))] at h2; exact h2⟩, fun ⟨j, d, h1, h2⟩ => ⟨j, d, h1, by rw [List.getElem?_set_ne (ne h1 (fun z => by cases z))]; exact h2⟩⟩
  have hB : Bad ws B0 sl (σ.set i (some v)) = Bad ws B0 sl σ := by
    funext a
    exact propext ⟨fun z => z.imp id fun z => z.imp id (hO a).1, fun z => z.imp id fun z => z.imp id (hO a).2⟩
  refine ⟨hO, ⟨by rw [List.length_set]; exact e.len, e.wr, e.bx, e.dom, fun j d hj => ?_, fun j d hj => ?_, fun j k d d' a h1 h2 h3 h4 => ?_⟩⟩
  · rw [hB, List.getElem?_set_ne (ne hj (fun z => by cases z))]
    exact e.va j d hj
  · rw [hB, List.getElem?_set_ne (ne hj (fun z => by cases z))]
    exact e.ow j d hj
  · rw [List.getElem?_set_ne (ne h1 (fun z => by cases z))] at h3
    rw [List.getElem?_set_ne (ne h2 (fun z => by cases z))] at h4
    exact e.uq j k d d' a h1 h2 h3 h4
theorem ms_defret {f : Dn} (mk : MkrD X x name T params body scope) (hc : PE X e (tCN X Wx f T cl i)) (hcl : cl = cloFrom X.env.cells scope.names []) (hN : X.N.Nodup) (hi : X.N[i]? = some name) (hx : Loc X.env.scope name) (hf : X.fn name = true ∨ X.env.scope.names.lookup name = some .local) :
    PSsm X Wx [.FunctionDef name params body [] none [] scope none name dpos, .Return (some e) pos] (fun _ _ _ => fDefR i f) := by
  have hq : qualnameIn X.env name name = X.env.qual ++ name := by
    have hk : X.env.kindOf name = some .local ∨ X.env.kindOf name = some .cell := hx
    unfold qualnameIn
    rcases hk with k | k <;> rw [k] <;> first | rfl | exact if_neg (by decide)
  have hps : PS X (.FunctionDef name params body [] none [] scope none name dpos) (fun D0 σ H => LamX.Tabs (tabsK X.K) H ∧ ∀ (f c' P : Addr) (H1 : Hp), (∃ q, (P, q) ∈ tabsK X.K) → (∀ b o, H b = some o → b ≠ P → H1 b = some o) → (∀ b, H1 b = none → H b = none) → LamX.Tabs (tabsK X.K) H1 → H f = none → H1 f = some (LamO f T cl c') → H1 c' = some (LamX.CodeO c' T.qual) → D0.nx (σ.set i (some (.ref f))) H1) := by
    refine ⟨fun pins s σ H D I h => ?_⟩
    obtain ⟨hT, h⟩ := h
    refine PySem.W.nestDef_K mk.d0 mk.k0 mk.an ?_
    rw [hq, mk.qual]
    obtain ⟨c, P, h1, h2⟩ := mk.tab
    have hmem : (P, innerName (x, name)) ∈ tabsK X.K := List.mem_filterMap.mpr ⟨(x, name), mk.mem, by rw [h1]; rfl⟩
    refine def_make (T := T) I (mk.tbs _ mk.mem (c, P) h1) h2 hmem (fun p hp e => ?_) hT (fun y hy z => (mk.free y hy z).elim (fun z => I.ok.has _ (.inl z)) fun z => I.ok.has _ (.inr z)) mk.h1 mk.h2 mk.h3 mk.h4 mk.h5 fun f c' H1 s' I1 k1 k2 t1 f0 f1 c1 => ?_
    · obtain ⟨a, b⟩ := p
      cases e
      exact nodup_fst mk.nd hp hmem
    · rw [← hcl] at f1
      exact store_ok I1 hN hi hx (v := .ref f) rfl (fun s'' J => ⟨_, H1, J, h f c' P H1 ⟨_, hmem⟩ k1 k2 t1 f0 f1 c1⟩) hf
  refine (pss_cons hps (pss_one (ps_ret hc))).mimp fun D0 σ H ⟨ws, B0, sl, w, nx, bk, ct, en, h⟩ => ?_
  have h : Ans X.K X.mg Wx ws B0 sl σ H (fDefR i f sl w) nx bk ct D0 := h
  have hno : sl[i]? = some .no := by
    unfold fDefR at h
    cases q : sl[i]? with
    | none => rw [q] at h; exact absurd rfl h.nb
    | some z =>
      rw [q] at h
      cases z with
      | no => rfl
      | va d => exact absurd rfl h.nb
      | ow d => exact absurd rfl h.nb
  have h : Ans X.K X.mg Wx ws B0 sl σ H (f sl w) nx bk ct D0 := by
    unfold fDefR at h
    rw [hno] at h
    exact h
  refine ⟨en.wr.2.2, fun f1 c' P H1 hP k1 k2 t1 f0 hf1 hc1 => ?_⟩
  obtain ⟨qP, hmem⟩ := hP
  have hasP : ws.has P := .inr (.inl (by rw [en.wr.2.1]; exact List.mem_map.mpr ⟨_, hmem, rfl⟩))
  have po : Post ws H ws H1 := ⟨ws.le_refl, fun _ z => .inl z, fun _ z => z.elim, fun a o e n _ => k1 a o e (fun z => n (by rw [z]; exact hasP)), k2⟩
  have wr : WR X.K ws w H1 := by
    refine ⟨?_, ⟨en.wr.2.1, t1⟩, en.wr.3.keep_tbl (en.wr.2.2 _ hmem) k1⟩
    have hw := en.wr.1
    unfold TW at hw ⊢
    split
    · trivial
    · rename_i l t e1 e2
      rw [e1, e2] at hw
      have hw : H t = some (.lst (l.map V.int)) := hw
      refine k1 _ _ hw fun z => ?_
      obtain ⟨ps, y, _⟩ := en.wr.2.2 _ hmem
      have y : H P = some (.tbl ps) := y
      rw [z, y] at hw; cases hw
    · rename_i h1 h2
      split at hw
      · rename_i e1 e2; exact h1 e1 e2
      · rename_i e1 e2; exact h2 _ _ e1 e2
      · exact hw
  obtain ⟨l1, e1⟩ := en.after po wr
  obtain ⟨hO, e2⟩ := e1.setn (v := .ref f1) hno
  have hiσ : i < σ.length := by rw [← en.len]; exact (List.getElem?_eq_some_iff.mp hno).1
  have l2 : Le ws (Own sl σ) H ws (Own sl (σ.set i (some (.ref f1)))) H1 := ⟨l1.wle, l1.new, fun a z => l1.own a ((hO a).1 z), l1.keep, l1.ex⟩
  refine ⟨ws, B0, sl, w, f1, c', by rw [List.getElem?_set_self hiσ], hf1, hc1, e2, ?_⟩
  have h := h.le l2
  cases q : f sl w with
  | bad => rw [q] at h; exact absurd rfl h.nb
  | ex c w1 => rw [q] at h; exact fun ws' H' C hc l e => h.ex c w1 rfl _ ws' sl H' C hc l e
  | ok d w1 =>
    rw [q] at h
    exact fun ws' H' l e' v hv => h.rt d w1 rfl _ ws' sl H' v l e' hv.ret
end
/-! ### what an inner def promises -/
section
variable {P : Program} {w : World} {K : PySem.W.Frag} {mg : Str → Option Value} {base : Heap}
theorem lamOk_def {N : List Str} {T : LT} {body : List Stmt} {m : List D → Mf} {k : Nat} (hx : T.body = .stmts body) (S : NdefX.NScope N T.ps T.fr T.scope)
    (hbind : ∀ (cl : List (Str × Addr)) (c : Addr) (doc pm ctv : Value) (us : List Value), us.length = T.ps.length → bindArgs (T.fd cl c doc pm ctv) ⟨us, []⟩ = pure (T.ps.zip us))
    (hbody : ∀ (f c : Addr) (cl : List (Str × Addr)) (A : Around) (outer : List PySem.Env) (s : Shared) (H : Hp), Room k (A.deeper (NdefX.envF (T.nf cl c) f s.heap.objs.size)) →
      ∃ b : Sk, PSsm (lcx P w K mg base N T cl c f A outer s H) W0 body b ∧ ∀ ds as : List D, as.length = T.ps.length → ds.length = T.fr.length → runB b N.length (as ++ ds) = m ds as) : LamOk P w K mg base (k + 1) T m := by
  intro A outer s H us vs cvs f c cl ds as ws B0 w0 w1 d hr e0 hf hc C r hl hw hbx hd rc ra hm
  have lim : s.heap.NoLimit := e0.mod.nolimit.keeps fun b o e => (e0.bs b o e).1
  obtain ⟨od, sl, doc, pm, ctv, ho⟩ := lamO_at e0.hok hf
  refine codeAny_call_function hr.depth ho rfl S.co S.gen hx (NdefX.codeO_at e0.hok hc) ?_
  rw [hbind cl c doc pm ctv us (by rw [← r.length]; exact hl)]
  refine wpAny_pure (wpAny_newFunctionEnv S.nocell (fun ⟨n, _⟩ hy => S.par n (List.of_mem_zip hy).1) (fun h₁ hns hsb => ⟨lim.fresh _ hsb, ?_⟩) S.kind)
  show codeAny _ _ (.func body (NdefX.envF (T.nf cl c) f s.heap.objs.size)) _ _
  refine codeAny_func ?_
  have kp : ∀ b o, s.heap.get? b = some o → h₁.get? b = some o := fun b o e =>
    hsb.extBut b o (Nat.ne_of_lt (Heap.lt_size e)) (Heap.get?_push_of_some _ e)
  obtain ⟨b, hb, hbm⟩ := hbody f c cl A outer s H (hr.deeper _)
  have I : Inv (lcx P w K mg base N T cl c f A outer s H) [] (NdefX.startF N vs (cvs.map some)) H { s with heap := h₁, toks := s.toks + (T.ps.zip us).length } := NdefX.inv_startN S hr.hd e0 hl r C hns kp
  rw [startF_eq] at I
  obtain ⟨nO, en⟩ := env_start (N := N) hw hbx hd (ra.append rc)
  have hlen : cvs.length = T.fr.length := by have := C.len; rw [List.length_map] at this; exact this
  have q := hbm ds as (by rw [← ra.length]; exact hl) (by rw [← rc.length]; exact hlen)
  obtain ⟨Q, eQ⟩ : ∃ Q : VK, Q = fun v H' => ∃ ws', Post ws H ws' H' ∧ WR K ws' w1 H' ∧ DR K ws' (fun a => ws'.has a ∨ B0 a) H' v d := ⟨_, rfl⟩
  have po : ∀ {σ' : L2.St} {ws' : Wa} {sl' : Ls} {H' : Hp}, Le ws (Own (slStart N.length (as ++ ds)) (L2.start N (vs ++ cvs))) H ws' (Own sl' σ') H' → Post ws H ws' H' := fun l =>
    ⟨l.wle, l.new, fun _ z => z.elim, fun a o h1 h2 _ => l.keep a o h1 h2 (nO a), l.ex⟩
  have run : runB b N.length (as ++ ds) w0 = .ok d w1 := by rw [q]; exact hm
  have ht : tS K mg W0 b { nx := fun _ H' => Q .non H', rt := Q } (L2.start N (vs ++ cvs)) H := by
    refine ⟨ws, B0, _, w0, fun _ => M.pure .non, fun _ => M.bad, fun _ => M.bad, en, ⟨fun z => ?_, ?_, ?_, ?_, ?_, ?_⟩⟩
    · have z : runB b N.length (as ++ ds) w0 = .bad := z
      rw [z] at run; cases run
    · intro σ' ws' sl' w' H' l e' q
      have q : runB b N.length (as ++ ds) w0 = .ok .non w' := q.symm
      rw [run] at q
      cases q
      rw [eQ]
      exact ⟨ws', po l, e'.wr, .non⟩
    · intro σ' ws' sl' w' H' l e' q
      have q : runB b N.length (as ++ ds) w0 = .bad := q.symm
      rw [run] at q; cases q
    · intro σ' ws' sl' w' H' l e' q
      have q : runB b N.length (as ++ ds) w0 = .bad := q.symm
      rw [run] at q; cases q
    · intro d' w' q σ' ws' sl' H' v l e' hv
      have q : runB b N.length (as ++ ds) w0 = .ok d' w' := q
      rw [run] at q
      cases q
      rw [eQ]
      exact ⟨ws', po l, e'.wr, hv⟩
    · intro c' w' q σ' ws' sl' H' C' hC l e'
      have q : runB b N.length (as ++ ds) w0 = .ex c' w' := q
      rw [run] at q; cases q
  rw [← eQ]
  refine wpAny_mono (hb.run [] _ _ H _ I ht) (fun fl s' hs => ?_) fun e s' hs => hs
  have fin : ∀ {σ' : L2.St} {H' : Hp} {v : V} {u : Value}, Inv (lcx P w K mg base N T cl c f A outer s H) [] σ' H' s' → L2.RelV v u → Q v H' → CE outer P w H s Q u s' :=
    fun {σ' H' v u} J rv q => ⟨v, H', J.os, J.bare, J.base, J.hok, rv, q⟩
  cases fl with
  | ret u =>
    obtain ⟨v, σ', H', J, rv, q⟩ := hs
    exact fin J rv q
  | next =>
    obtain ⟨σ', H', J, q⟩ := hs
    exact fin (v := V.non) (u := Value.none) J rfl q
  | brk =>
    obtain ⟨_, _, _, q⟩ := hs
    exact False.elim q
  | cont =>
    obtain ⟨_, _, _, q⟩ := hs
    exact False.elim q
end
theorem mkrD_by {X : Cx} {x name : Str} {T : LT} {params : Arguments} {body : List Stmt} {scope : Scope} {c P : Addr} (hct : codeTab X.K x = some (c, P)) (tbs : TBs X.K X.mg X.base) (nd : ((tabsK X.K).map (·.1)).Nodup) (hcode : X.env.code = .ref c) (qual : X.env.qual ++ name = innerName (x, name)) (mem : decide ((x, name) ∈ makers) = true)
    (h1 : T.name = name) (h2 : T.qual = innerName (x, name)) (h3 : T.params = params) (h4 : T.body = .stmts body) (h5 : T.scope = scope) (d0 : params.defaults = []) (k0 : params.kw_defaults = []) (an : annTrees params none X.env = []) (free : NdefX.ndefB X.env.scope scope [] = true) : MkrD X x name T params body scope :=
  ⟨⟨c, P, hct, hcode⟩, tbs, nd, of_decide_eq_true mem, qual, h1, h2, h3, h4, h5, d0, k0, an, NdefX.ndef_free free⟩
/-! ### the words of the def in the last row but one -/
def findDef (b : List Stmt) : Option (Str × Arguments × List Stmt × Scope) := match b.reverse with
  | _ :: .FunctionDef n a e _ _ _ s _ _ _ :: _ => some (n, a, e, s)
  | _ => none
def inDefBody (b : List Stmt) : List Stmt := match findDef b with
  | some (_, _, e, _) => e
  | none => []
def inDefOf (x : Str) (b : List Stmt) (ps fr : List Str) : LT := match findDef b with
  | some (n, a, e, s) => ⟨n, innerName (x, n), a, .stmts e, s, ps, fr⟩
  | none => ⟨lamN, lamN, ⟨[], [], none, [], [], none, []⟩, .stmts [], { kind := .function, names := [], isGenerator := false, isCoroutine := false, more := [] }, ps, fr⟩
end Pm
namespace Pm
open PySem PySem.Spec PyProof.Rows L2 RZ
/-! ### zip of two, each a list (true) or a tuple (false): the iterators at N, N + 1, theirs at N + 2, what was told at N + 3, the zip at N + 4 -/
def itr : Bool → Heap → Addr → Addr → Nat → Prop
  | true, h, a, l, i => h.IsListIter a l i
  | false, h, a, l, i => h.IsTupleIter a l i
def isq : Bool → Heap → Addr → Array Value → Prop
  | true, h, a, xs => h.IsList a xs
  | false, h, a, xs => h.IsTuple a xs
def ito (t : Bool) (l : Addr) : Obj := match t with
  | true => { cls := .type "list_iterator", data := .fields #[.ref l, .int 0 0] }
  | false => { cls := .type "tuple_iterator", data := .fields #[.ref l, .int 0 0] }
theorem itr.extBut {t : Bool} {h h' : Heap} {a b l : Addr} {i : Nat} (x : itr t h a l i) (e : Heap.ExtBut b h h') (n : a ≠ b) : itr t h' a l i := by
  cases t
  · exact Heap.IsTupleIter.extBut x e n
  · exact Heap.IsListIter.extBut x e n
theorem itr.at {t : Bool} {h h' : Heap} {a l : Addr} {i : Nat} (x : itr t h a l i) (e : ∀ o, h.get? a = some o → h'.get? a = some o) : itr t h' a l i := by
  cases t
  · exact Heap.IsTupleIter.at x e
  · exact Heap.IsListIter.at x e
theorem itr.obj {t : Bool} {h : Heap} {a l : Addr} {i : Nat} (x : itr t h a l i) : ∃ o, h.get? a = some o ∧ ∀ v, o.data ≠ .cell v := by
  cases t <;> (obtain ⟨o, e, _, d⟩ := x; exact ⟨o, e, fun v q => by rw [d] at q; cases q⟩)
theorem isq.extBut {t : Bool} {h h' : Heap} {a b : Addr} {xs : Array Value} (x : isq t h a xs) (e : Heap.ExtBut b h h') (n : a ≠ b) : isq t h' a xs := by
  cases t
  · exact Heap.IsTuple.extBut x e n
  · exact Heap.IsList.extBut x e n
theorem isq.push {t : Bool} {h : Heap} {a : Addr} {xs : Array Value} (x : isq t h a xs) (o : Obj) : isq t (h.push o) a xs := by
  cases t
  · exact Heap.IsTuple.push x o
  · exact Heap.IsList.push x o
theorem isq.lt {t : Bool} {h : Heap} {a : Addr} {xs : Array Value} (x : isq t h a xs) : a < h.objs.size := by
  cases t <;> (obtain ⟨o, e, _⟩ := x; exact Heap.lt_size e)
theorem ito_itr {t : Bool} {h : Heap} {a l : Addr} (e : h.get? a = some (ito t l)) : itr t h a l 0 := by
  cases t <;> exact ⟨_, e, rfl, rfl⟩
section
variable {prog : Program} {w : World} {A : Around} {E : Value → Shared → Prop} {s : Shared}
theorem nx_item {t : Bool} {a l : Addr} {i : Nat} {xs : Array Value} {x : Value} {Q : Value → Shared → Prop} (h1 : itr t s.heap a l i) (h2 : isq t s.heap l xs) (hx : xs[i]? = some x)
    (hQ : ∀ h', itr t h' a l (i + 1) → Heap.SameBut a s.heap h' → Q x { s with heap := h' }) : wpAny (model prog w) A (Builtin.SmallTypes.nextOf (.ref a)) Q E s := by
  cases t
  · exact nextOf_tuple_item h1 h2 hx hQ
  · exact wpAny_nextOf_list_item h1 h2 hx hQ
theorem nx_end {t : Bool} {a l : Addr} {i : Nat} {xs : Array Value} {Q : Value → Shared → Prop} (hh : A.handled = none) (h1 : itr t s.heap a l i) (h2 : isq t s.heap l xs) (hx : xs[i]? = none)
    (hE : ∀ h' e, Heap.ExtBut a s.heap h' → (∃ o, h'.get? e = some o ∧ o.cls = .type "StopIteration") → E (.ref e) { s with heap := h' }) : wpAny (model prog w) A (Builtin.SmallTypes.nextOf (.ref a)) Q E s := by
  cases t
  · exact nextOf_tuple_end hh h1 h2 hx hE
  · exact wpAny_nextOf_list_end hh h1 h2 hx hE
theorem nx_iter {t : Bool} {l : Addr} {xs : Array Value} {Q : Value → Shared → Prop} (h : isq t s.heap l xs) (hQ : Q (.ref s.heap.objs.size) { s with heap := s.heap.push (ito t l) }) : wpAny (model prog w) A (pyIter (.ref l)) Q E s := by
  cases t
  · exact wpAny_pyIter_tuple h hQ
  · exact wpAny_pyIter_list h hQ
variable {N a b : Nat} {k : Nat} {t1 t2 : Bool} {xs ys : Array Value} {x y p q : Value}
theorem zipM_item {Q : Value → Shared → Prop} (ha : a < N) (hb : b < N) (hz : IsZip s.heap (N + 4) (N + 2) (N + 3) .none) (tI : IsPair s.heap (N + 2) (.ref N) (.ref (N + 1))) (tO : IsPair s.heap (N + 3) p q)
    (j1 : itr t1 s.heap N a k) (j2 : itr t2 s.heap (N + 1) b k) (l1 : isq t1 s.heap a xs) (l2 : isq t2 s.heap b ys) (hx : xs[k]? = some x) (hy : ys[k]? = some y)
    (hQ : ∀ g, IsZip g (N + 4) (N + 2) (N + 3) (rawInt s.heap.objs.size) → IsPair g (N + 3) x y → itr t1 g N a (k + 1) → itr t2 g (N + 1) b (k + 1) → IsPair g s.heap.objs.size x y → g.objs.size = s.heap.objs.size + 1 →
      (∀ (d : Addr) o, d ≠ N + 4 → d ≠ N + 3 → d ≠ N → d ≠ N + 1 → s.heap.get? d = some o → g.get? d = some o) → Q (.ref s.heap.objs.size) { s with heap := g }) :
    wpAny (model prog w) A (Builtin.«zip.__next__» ⟨[.ref (N + 4)], []⟩) (fun fin s' => ∃ v, fin = .done (.ret v) ∧ Q v s') E s := by
  show wpAny _ _ (field (.ref (N + 4)) 2 >>= _) _ _ _
  refine wpAny_bind (wpAny_field hz rfl (x := .bool false) rfl ?_)
  show wpAny _ _ (field (.ref (N + 4)) 3 >>= _) _ _ _
  refine wpAny_bind (wpAny_field hz rfl (x := .ref (N + 2)) rfl (wpAny_bind (wpAny_seqItems tI rfl ?_)))
  show wpAny _ _ (Builtin.SmallTypes.ownedTupleIsFree (.ref (N + 4)) >>= _) _ _ _
  refine wpAny_bind ?_
  unfold Builtin.SmallTypes.ownedTupleIsFree
  refine wpAny_bind (wpAny_field hz rfl (x := .none) rfl (wpAny_pure ?_))
  simp only [if_true]
  refine wpAny_bind (wpAny_rule (wpAny_bind (wpAny_field hz rfl (x := .ref (N + 3)) rfl (wpAny_bind (wpAny_setField_rec hz (by simp) fun g1 z1 s1 => ?_)))))
  replace z1 : IsZip g1 (N + 4) (N + 2) (N + 3) .ellipsis := z1
  refine wpAny_bind ?_
  simp only [List.zipIdx_cons, List.zipIdx_nil, List.forIn_cons, List.forIn_nil]
  refine wpAny_bind (wpAny_bind (wpAny_onRaise ?_))
  show wpAny _ _ (Builtin.SmallTypes.nextOf (.ref N) >>= _) _ _ _
  refine wpAny_bind (nx_item (j1.extBut s1.extBut (an (by omega))) (l1.extBut s1.extBut (an (by omega))) hx fun g2 i2 s2 => wpAny_pure ?_)
  have o2 : IsPair g2 (N + 3) p q := s2.extBut _ _ (an (by omega)) (s1.extBut _ _ (an (by omega)) tO)
  refine wpAny_bind (wpAny_seqItems o2 rfl (wpAny_bind (wpAny_updateSeq_pair o2 fun g3 o3 s3 => ?_)))
  replace o3 : IsPair g3 (N + 3) x q := o3
  refine wpAny_bind (wpAny_letGo (wpAny_pure ?_))
  refine wpAny_bind (wpAny_bind (wpAny_onRaise ?_))
  show wpAny _ _ (Builtin.SmallTypes.nextOf (.ref (N + 1)) >>= _) _ _ _
  refine wpAny_bind (nx_item (((j2.extBut s1.extBut (an (by omega))).extBut s2.extBut (an (by omega))).extBut s3.extBut (an (by omega))) (((l2.extBut s1.extBut (an (by omega))).extBut s2.extBut (an (by omega))).extBut s3.extBut (an (by omega))) hy fun g4 i4 s4 => wpAny_pure ?_)
  have o4 : IsPair g4 (N + 3) x q := s4.extBut _ _ (an (by omega)) o3
  refine wpAny_bind (wpAny_seqItems o4 rfl (wpAny_bind (wpAny_updateSeq_pair o4 fun g5 o5 s5 => ?_)))
  replace o5 : IsPair g5 (N + 3) x y := o5
  refine wpAny_bind (wpAny_letGo (wpAny_pure (wpAny_pure ?_)))
  refine wpAny_bind (wpAny_seqItems o5 rfl (wpAny_bind (wpAny_newTuple ?_)))
  have hsz : g5.objs.size = s.heap.objs.size := by rw [s5.1, s4.1, s3.1, s2.1, s1.1]
  have z5 : IsZip g5 (N + 4) (N + 2) (N + 3) .ellipsis := s5.extBut _ _ (an (by omega)) (s4.extBut _ _ (an (by omega)) (s3.extBut _ _ (an (by omega)) (s2.extBut _ _ (an (by omega)) z1)))
  have kp : ∀ (d : Addr) o, d ≠ N + 4 → d ≠ N + 3 → d ≠ N → d ≠ N + 1 → s.heap.get? d = some o → g5.get? d = some o := fun d o c1 c2 c3 c4 e =>
    s5.extBut _ _ c2 (s4.extBut _ _ c4 (s3.extBut _ _ c2 (s2.extBut _ _ c3 (s1.extBut _ _ c1 e))))
  have f1 : itr t1 g5 N a (k + 1) := ((i2.extBut s3.extBut (an (by omega))).extBut s4.extBut (an (by omega))).extBut s5.extBut (an (by omega))
  have f2 : itr t2 g5 (N + 1) b (k + 1) := i4.extBut s5.extBut (an (by omega))
  have zlt : N + 4 < g5.objs.size := Heap.lt_size z5
  show wpAny _ _ (Builtin.SmallTypes.ownedTupleHandOut (.ref (N + 4)) (.ref g5.objs.size) >>= _) _ _ _
  refine wpAny_bind ?_
  unfold Builtin.SmallTypes.ownedTupleHandOut
  have z6 : IsZip (g5.push { cls := .type "tuple", data := .seq #[x, y] }) (N + 4) (N + 2) (N + 3) .ellipsis := Heap.get?_push_of_some _ z5
  refine wpAny_bind (wpAny_setField_rec z6 (by simp) fun g7 z7 s7 => ?_)
  replace z7 : IsZip g7 (N + 4) (N + 2) (N + 3) (rawInt g5.objs.size) := z7
  refine wpAny_setField_rec z7 (by simp) fun g8 z8 s8 => ?_
  replace z8 : IsZip g8 (N + 4) (N + 2) (N + 3) (rawInt g5.objs.size) := z8
  have up : ∀ (d : Addr) o, d ≠ N + 4 → g5.get? d = some o → g8.get? d = some o := fun d o c1 e => s8.extBut _ _ c1 (s7.extBut _ _ c1 (Heap.get?_push_of_some _ e))
  have t8 : IsPair g8 g5.objs.size x y := s8.extBut _ _ (Nat.ne_of_gt zlt) (s7.extBut _ _ (Nat.ne_of_gt zlt) (Heap.get?_push_size _ rfl))
  have y8 : g8.objs.size = g5.objs.size + 1 := by rw [s8.1, s7.1, Heap.size_push]
  rw [hsz] at z8 t8 y8
  refine wpAny_pure ⟨_, rfl, ?_⟩
  show Q (.ref g5.objs.size) _
  rw [hsz]
  exact hQ g8 z8 (up _ _ (an (by omega)) o5) (f1.at fun o e => up _ o (an (by omega)) e) (f2.at fun o e => up _ o (an (by omega)) e) t8 y8 fun d o c1 c2 c3 c4 e => up d o c1 (kp d o c1 c2 c3 c4 e)
theorem zipM_end {Q : Fin → Shared → Prop} (hh : A.handled = none) (ha : a < N) (hb : b < N) (hz : IsZip s.heap (N + 4) (N + 2) (N + 3) .none) (tI : IsPair s.heap (N + 2) (.ref N) (.ref (N + 1))) (tO : IsPair s.heap (N + 3) p q)
    (j1 : itr t1 s.heap N a k) (j2 : itr t2 s.heap (N + 1) b k) (l1 : isq t1 s.heap a xs) (l2 : isq t2 s.heap b ys) (hend : xs[k]? = none ∨ ys[k]? = none)
    (hE : ∀ g e, (∀ (d : Addr) o, d ≠ N + 4 → d ≠ N + 3 → d ≠ N → d ≠ N + 1 → s.heap.get? d = some o → g.get? d = some o) → (∃ o, g.get? e = some o ∧ o.cls = .type "StopIteration") → E (.ref e) { s with heap := g }) :
    wpAny (model prog w) A (Builtin.«zip.__next__» ⟨[.ref (N + 4)], []⟩) Q E s := by
  have off : ∀ {g : Heap} {e : Addr} {oe : Obj}, IsZip g (N + 4) (N + 2) (N + 3) .ellipsis → g.get? e = some oe → oe.cls = .type "StopIteration" → e ≠ N + 4 := fun zz he hcl x => by
    subst x; rw [zz] at he; cases he; simp at hcl
  show wpAny _ _ (field (.ref (N + 4)) 2 >>= _) _ _ _
  refine wpAny_bind (wpAny_field hz rfl (x := .bool false) rfl ?_)
  show wpAny _ _ (field (.ref (N + 4)) 3 >>= _) _ _ _
  refine wpAny_bind (wpAny_field hz rfl (x := .ref (N + 2)) rfl (wpAny_bind (wpAny_seqItems tI rfl ?_)))
  show wpAny _ _ (Builtin.SmallTypes.ownedTupleIsFree (.ref (N + 4)) >>= _) _ _ _
  refine wpAny_bind ?_
  unfold Builtin.SmallTypes.ownedTupleIsFree
  refine wpAny_bind (wpAny_field hz rfl (x := .none) rfl (wpAny_pure ?_))
  simp only [if_true]
  refine wpAny_bind (wpAny_rule (wpAny_bind (wpAny_field hz rfl (x := .ref (N + 3)) rfl (wpAny_bind (wpAny_setField_rec hz (by simp) fun g1 z1 s1 => ?_)))))
  replace z1 : IsZip g1 (N + 4) (N + 2) (N + 3) .ellipsis := z1
  refine wpAny_bind ?_
  simp only [List.zipIdx_cons, List.zipIdx_nil, List.forIn_cons, List.forIn_nil]
  refine wpAny_bind (wpAny_bind (wpAny_onRaise ?_))
  show wpAny _ _ (Builtin.SmallTypes.nextOf (.ref N) >>= _) _ _ _
  cases hx : xs[k]? with
  | none =>
    refine wpAny_bind (nx_end hh (j1.extBut s1.extBut (an (by omega))) (l1.extBut s1.extBut (an (by omega))) hx fun g2 e s2 he => ?_)
    obtain ⟨oe, hoe, hce⟩ := he
    have z2 : IsZip g2 (N + 4) (N + 2) (N + 3) .ellipsis := s2 _ _ (an (by omega)) z1
    exact wpAny_setField_rec z2 (by simp) fun g3 _ s3 => hE g3 e (fun d o c1 _ c3 _ x => s3.extBut _ _ c1 (s2 _ _ c3 (s1.extBut _ _ c1 x))) ⟨oe, s3.extBut _ _ (off z2 hoe hce) hoe, hce⟩
  | some x =>
    have hy : ys[k]? = none := by rcases hend with z | z; (rw [hx] at z; cases z); exact z
    refine wpAny_bind (nx_item (j1.extBut s1.extBut (an (by omega))) (l1.extBut s1.extBut (an (by omega))) hx fun g2 i2 s2 => wpAny_pure ?_)
    have o2 : IsPair g2 (N + 3) p q := s2.extBut _ _ (an (by omega)) (s1.extBut _ _ (an (by omega)) tO)
    refine wpAny_bind (wpAny_seqItems o2 rfl (wpAny_bind (wpAny_updateSeq_pair o2 fun g3 o3 s3 => ?_)))
    refine wpAny_bind (wpAny_letGo (wpAny_pure ?_))
    refine wpAny_bind (wpAny_bind (wpAny_onRaise ?_))
    show wpAny _ _ (Builtin.SmallTypes.nextOf (.ref (N + 1)) >>= _) _ _ _
    refine wpAny_bind (nx_end hh (((j2.extBut s1.extBut (an (by omega))).extBut s2.extBut (an (by omega))).extBut s3.extBut (an (by omega))) (((l2.extBut s1.extBut (an (by omega))).extBut s2.extBut (an (by omega))).extBut s3.extBut (an (by omega))) hy fun g4 e s4 he => ?_)
    obtain ⟨oe, hoe, hce⟩ := he
    have z4 : IsZip g4 (N + 4) (N + 2) (N + 3) .ellipsis := s4 _ _ (an (by omega)) (s3.extBut _ _ (an (by omega)) (s2.extBut _ _ (an (by omega)) z1))
    exact wpAny_setField_rec z4 (by simp) fun g5 _ s5 => hE g5 e (fun d o c1 c2 c3 c4 x => s5.extBut _ _ c1 (s4 _ _ c4 (s3.extBut _ _ c2 (s2.extBut _ _ c3 (s1.extBut _ _ c1 x))))) ⟨oe, s5.extBut _ _ (off z4 hoe hce) hoe, hce⟩
theorem nextM_item {Q : Option Value → Shared → Prop} (ha : a < N) (hb : b < N) (hz : IsZip s.heap (N + 4) (N + 2) (N + 3) .none) (tI : IsPair s.heap (N + 2) (.ref N) (.ref (N + 1))) (tO : IsPair s.heap (N + 3) p q)
    (j1 : itr t1 s.heap N a k) (j2 : itr t2 s.heap (N + 1) b k) (l1 : isq t1 s.heap a xs) (l2 : isq t2 s.heap b ys) (hx : xs[k]? = some x) (hy : ys[k]? = some y)
    (hQ : ∀ g, IsZip g (N + 4) (N + 2) (N + 3) (rawInt s.heap.objs.size) → IsPair g (N + 3) x y → itr t1 g N a (k + 1) → itr t2 g (N + 1) b (k + 1) → IsPair g s.heap.objs.size x y → g.objs.size = s.heap.objs.size + 1 →
      (∀ (d : Addr) o, d ≠ N + 4 → d ≠ N + 3 → d ≠ N → d ≠ N + 1 → s.heap.get? d = some o → g.get? d = some o) → Q (some (.ref s.heap.objs.size)) { s with heap := g }) :
    wpAny (model prog w) A (pyNext (.ref (N + 4))) Q E s := by
  have hT : s.TypeIs (.ref (N + 4)) "zip" := ⟨_, hz, rfl⟩
  unfold pyNext
  exact wpAny_bind (wpAny_attempt (wpAny_callSpecial?_slot (name := Str.ofString "__next__") hT F.slot_zip_next (wpAny_call_entry F.slot_zip_next hT F.entry_zip_next
    (zipM_item ha hb hz tI tO j1 j2 l1 l2 hx hy fun g a1 a2 a3 a4 a5 a6 a7 => wpAny_pure (hQ g a1 a2 a3 a4 a5 a6 a7)) (F.args_zip_next_1 _))))
theorem nextM_end {Q : Option Value → Shared → Prop} (hh : A.handled = none) (ha : a < N) (hb : b < N) (hz : IsZip s.heap (N + 4) (N + 2) (N + 3) .none) (tI : IsPair s.heap (N + 2) (.ref N) (.ref (N + 1))) (tO : IsPair s.heap (N + 3) p q)
    (j1 : itr t1 s.heap N a k) (j2 : itr t2 s.heap (N + 1) b k) (l1 : isq t1 s.heap a xs) (l2 : isq t2 s.heap b ys) (hend : xs[k]? = none ∨ ys[k]? = none)
    (hQ : ∀ g, (∀ (d : Addr) o, d ≠ N + 4 → d ≠ N + 3 → d ≠ N → d ≠ N + 1 → s.heap.get? d = some o → g.get? d = some o) → Q none { s with heap := g }) : wpAny (model prog w) A (pyNext (.ref (N + 4))) Q E s := by
  have hT : s.TypeIs (.ref (N + 4)) "zip" := ⟨_, hz, rfl⟩
  unfold pyNext
  refine wpAny_bind (wpAny_attempt (wpAny_callSpecial?_slot (name := Str.ofString "__next__") hT F.slot_zip_next (wpAny_call_entry F.slot_zip_next hT F.entry_zip_next (zipM_end hh ha hb hz tI tO j1 j2 l1 l2 hend fun g e hk he => ?_) (F.args_zip_next_1 _))))
  obtain ⟨o, ho, hcl⟩ := he
  exact wpAny_bind (wpAny_isInstance (T := "StopIteration") (b := true) ⟨o, ho, hcl⟩ isSubtype_stop (wpAny_pure (hQ _ hk)))
end
/-! the making of it -/
abbrev yA (h : Heap) (t : Bool) (a : Addr) : Heap := h.push (ito t a)
abbrev yI (h : Heap) (t1 t2 : Bool) (a b : Addr) : Heap := (yA (yA h t1 a) t2 b).push { cls := .type "tuple", data := .seq #[.ref h.objs.size, .ref (yA h t1 a).objs.size] }
abbrev yO (h : Heap) (t1 t2 : Bool) (a b : Addr) : Heap := (yI h t1 t2 a b).push { cls := .type "tuple", data := .seq #[.none, .none] }
abbrev yZ (h : Heap) (t1 t2 : Bool) (a b : Addr) : Heap := (yO h t1 t2 a b).push { cls := .type "zip", data := .fields #[.none, .bool false, .bool false, .ref (yA (yA h t1 a) t2 b).objs.size, .ref (yI h t1 t2 a b).objs.size] }
theorem meets_zipM (t1 t2 : Bool) (a b : Addr) (xs ys : Array Value) :
    Meets (Builtin.«zip.__new__» ⟨[.type "zip", .ref a, .ref b], []⟩) (fun _ R s => isq t1 s.heap a xs ∧ isq t2 s.heap b ys ∧ R (.ok (.ret (.ref (yO s.heap t1 t2 a b).objs.size))) { s with heap := yZ s.heap t1 t2 a b }) :=
  .of_wp fun prog w A R s h => by
    obtain ⟨hp, g, d, tk, os⟩ := s; obtain ⟨m1, m2, h⟩ := h
    have hsub := sub_zip
    have u1 : isq t1 (Shared.heap ⟨hp, g, d, tk, os⟩) a xs := m1
    have u2 : isq t2 (Shared.heap ⟨hp.push (ito t1 a), g, d, tk, os⟩) b ys := isq.push m2 _
    wp_walk using nx_iter u1, nx_iter u2
    exact ⟨_, rfl, h⟩
section
variable {prog : Program} {w : World} {A : Around} {E : Value → Shared → Prop} {s : Shared}
theorem call_zipM {t1 t2 : Bool} {a b : Addr} {xs ys : Array Value} {Q : Value → Shared → Prop} (m1 : isq t1 s.heap a xs) (m2 : isq t2 s.heap b ys)
    (h : ∀ g (N : Nat), N = s.heap.objs.size → IsZip g (N + 4) (N + 2) (N + 3) .none → IsPair g (N + 2) (.ref N) (.ref (N + 1)) → IsPair g (N + 3) .none .none → itr t1 g N a 0 → itr t2 g (N + 1) b 0 →
      (∀ d o, s.heap.get? d = some o → g.get? d = some o) → Q (.ref (N + 4)) { s with heap := g }) :
    wpAny (model prog w) A (call (.type "zip") [.ref a, .ref b]) Q E s := by
  refine callType_new F.called_zip (by decide) (F.typeCall_zip_2 _ _) (F.newCall_zip_2 _ _) (fun obj => F.args_object_init_3 obj _ _) F.entry_zip_new (meets_zipM t1 t2 a b xs ys) ⟨m1, m2, ?_⟩
  obtain ⟨N, hN⟩ : ∃ N : Nat, N = s.heap.objs.size := ⟨_, rfl⟩
  have z1 : (yA s.heap t1 a).objs.size = N + 1 := by rw [Heap.size_push, ← hN]
  have z2 : (yA (yA s.heap t1 a) t2 b).objs.size = N + 2 := by rw [Heap.size_push, z1]
  have z3 : (yI s.heap t1 t2 a b).objs.size = N + 3 := by rw [Heap.size_push, z2]
  have z4 : (yO s.heap t1 t2 a b).objs.size = N + 4 := by rw [Heap.size_push, z3]
  have up : ∀ {h : Heap} {o p : Obj} {d : Addr}, h.get? d = some o → (h.push p).get? d = some o := fun e => Heap.get?_push_of_some _ e
  have q5 : (yZ s.heap t1 t2 a b).get? (yO s.heap t1 t2 a b).objs.size = some _ := Heap.get?_push_size _ rfl
  have q4 : (yZ s.heap t1 t2 a b).get? (yI s.heap t1 t2 a b).objs.size = some _ := up (Heap.get?_push_size _ rfl)
  have q3 : (yZ s.heap t1 t2 a b).get? (yA (yA s.heap t1 a) t2 b).objs.size = some _ := up (up (Heap.get?_push_size _ rfl))
  have q2 : (yZ s.heap t1 t2 a b).get? (yA s.heap t1 a).objs.size = some (ito t2 b) := up (up (up (Heap.get?_push_size _ (by cases t2 <;> rfl))))
  have q1 : (yZ s.heap t1 t2 a b).get? s.heap.objs.size = some (ito t1 a) := up (up (up (up (Heap.get?_push_size _ (by cases t1 <;> rfl)))))
  show _ ∧ _
  rw [z2, z3, z4] at q5
  rw [z3] at q4
  rw [z1, z2, ← hN] at q3
  rw [z1] at q2
  rw [← hN] at q1
  rw [z4]
  exact ⟨⟨_, q5, rfl⟩, h _ N hN q5 q3 q4 (ito_itr q1) (ito_itr q2) fun d o x => up (up (up (up (up x))))⟩
end
def SqX (t : Bool) (K : PySem.W.Frag) (H : Hp) (a : Addr) (xs : List V) : Prop := match t with
  | true => SqL K H a xs
  | false => SqT K H a xs
section
variable {X : Cx} {pins : List (Addr × Obj)} {σ : L2.St} {H : Hp} {s : Shared} {a : Addr} {xs ys : List V} {t : Bool}
theorem sqx_is (I : Inv X pins σ H s) (h : SqX t X.K H a xs) : ∃ its : List Value, Vals xs its ∧ isq t s.heap a its.toArray := by
  cases t
  · obtain ⟨its, r, p, _⟩ := I.tuple h
    exact ⟨its, r, p⟩
  · obtain ⟨its, r, p, _⟩ := I.list h
    exact ⟨its, r, p.isList⟩
theorem sqx_inj (I : Inv X pins σ H s) (h : SqX t X.K H a xs) (h' : SqX t X.K H a ys) : xs = ys := by
  cases t
  · exact I.tuple_inj h h'
  · exact I.list_inj h h'
end
/-- what stands at a and b at each turn, the items in new pairs -/
def ItM (t1 t2 : Bool) (K : PySem.W.Frag) (a b : Addr) : It :=
  ⟨fun i H => ∃ (xs ys : List V) (x y : V), SqX t1 K H a xs ∧ SqX t2 K H b ys ∧ xs[i]? = some x ∧ ys[i]? = some y,
    fun i H v H' => ∃ T x y, v = .ref T ∧ H T = none ∧ H' = upd H T (.tup [x, y]) ∧ (∀ xs, SqX t1 K H a xs → xs[i]? = some x) ∧ ∀ ys, SqX t2 K H b ys → ys[i]? = some y,
    fun i H => ∃ xs ys : List V, SqX t1 K H a xs ∧ SqX t2 K H b ys ∧ (xs.length ≤ i ∨ ys.length ≤ i)⟩
theorem turnM {P : Program} {w : World} {K : PySem.W.Frag} {elts : List Expr} {kk : Nat} {tpos : Pos} {t1 t2 : Bool} {a b N : Nat} (ha : a < N) (hb : b < N) :
    Turn P w K (.Tuple elts kk tpos) (ItM t1 t2 K a b) [N + 4, N + 2, N + 3, N, N + 1] (N + 4) (fun i h => IsZip h (N + 4) (N + 2) (N + 3) .none ∧ IsPair h (N + 2) (.ref N) (.ref (N + 1)) ∧ (∃ x y, IsPair h (N + 3) x y) ∧ itr t1 h N a i ∧ itr t2 h (N + 1) b i) where
  mem := by simp
  obj := fun i h st d hd => by
    obtain ⟨hz, tI, ⟨x, y, tO⟩, j1, j2⟩ := st
    have e' : d = N + 4 ∨ d = N + 2 ∨ d = N + 3 ∨ d = N ∨ d = N + 1 := by simpa using hd
    rcases e' with rfl | rfl | rfl | rfl | rfl
    · exact ⟨_, hz, fun v q => nomatch q⟩
    · exact ⟨_, tI, fun v q => nomatch q⟩
    · exact ⟨_, tO, fun v q => nomatch q⟩
    · exact j1.obj
    · exact j2.obj
  keep := fun i h h' st k => by
    obtain ⟨hz, tI, ⟨x, y, tO⟩, j1, j2⟩ := st
    exact ⟨k _ (by simp) _ hz, k _ (by simp) _ tI, ⟨x, y, k _ (by simp) _ tO⟩, j1.at fun o q => k _ (by simp) o q, j2.at fun o q => k _ (by simp) o q⟩
  item := by
    intro X hP hw hK hcm i pins s σ H E I hf st hg
    subst hP hw hK
    obtain ⟨hz, tI, ⟨x0, y0, tO⟩, j1, j2⟩ := st
    obtain ⟨xs, ys, x, y, qx, qy, hx, hy⟩ := hg
    obtain ⟨is1, rv1, p1⟩ := sqx_is I qx
    obtain ⟨is2, rv2, p2⟩ := sqx_is I qy
    obtain ⟨v1, w1, ru1⟩ := rv1.get hx
    obtain ⟨v2, w2, ru2⟩ := rv2.get hy
    have zlt : N + 4 < s.heap.objs.size := Heap.lt_size hz
    refine nextM_item ha hb hz tI tO j1 j2 p1 p2 (x := v1) (y := v2) (by simpa using w1) (by simpa using w2) fun g z' tO' j1' j2' hT hsz hk => ?_
    refine ⟨_, rfl, wpAny_letOwnedTupleGo_zip (s := { s with heap := g }) z' fun g2 z'' sb => ?_⟩
    have hT2 : g2.get? s.heap.objs.size = some { cls := .type "tuple", data := .seq #[v1, v2] } := (sb.2 _ (Nat.ne_of_gt zlt)).trans hT
    have new : ObjOk X.prog X.w (upd H s.heap.objs.size (.tup [x, y])) g2 s.heap.objs.size (.tup [x, y]) := ⟨by show 2 ≤ sizeLine; decide, [v1, v2], .cons ru1 (.cons ru2 .nil), ⟨_, hT2, rfl, _, rfl⟩⟩
    have I1 : Inv X pins σ (upd H s.heap.objs.size (.tup [x, y])) { s with heap := g2 } :=
      I.turnedNew (t' := s.toks) (ch := [N + 4, N + 2, N + 3, N, N + 1]) (fun d o hn q => (sb.2 d (fun q' => hn (by simp [q']))).trans (hk d o (fun q' => hn (by simp [q'])) (fun q' => hn (by simp [q'])) (fun q' => hn (by simp [q'])) (fun q' => hn (by simp [q'])) q)) hf (Nat.le_refl _) new
    refine ⟨.ref s.heap.objs.size, _, I1, rfl, ⟨_, x, y, rfl, I.hok.fresh (Nat.le_refl _), rfl, fun l hl => by rw [sqx_inj I hl qx]; exact hx, fun l hl => by rw [sqx_inj I hl qy]; exact hy⟩, ⟨z'', ?_, ⟨v1, v2, ?_⟩, ?_, ?_⟩, fun d hdm => ?_⟩
    · exact (sb.2 _ (an (by omega))).trans (hk _ _ (an (by omega)) (an (by omega)) (an (by omega)) (an (by omega)) tI)
    · exact (sb.2 _ (an (by omega))).trans tO'
    · exact j1'.at fun o q => (sb.2 _ (an (by omega))).trans q
    · exact j2'.at fun o q => (sb.2 _ (an (by omega))).trans q
    · have hlt : d < s.heap.objs.size := by
        have e' : d = N + 4 ∨ d = N + 2 ∨ d = N + 3 ∨ d = N ∨ d = N + 1 := by simpa using hdm
        rcases e' with rfl | rfl | rfl | rfl | rfl
        · exact zlt
        · exact Heap.lt_size tI
        · exact Heap.lt_size tO
        · obtain ⟨_, e1, _⟩ := j1.obj; exact Heap.lt_size e1
        · obtain ⟨_, e1, _⟩ := j2.obj; exact Heap.lt_size e1
      rw [upd_ne (Nat.ne_of_lt hlt)]
      exact (hf d hdm).1
  done := by
    intro X hP hw hK hcm i pins s σ H E I hf st hg
    subst hP hw hK
    obtain ⟨hz, tI, ⟨x0, y0, tO⟩, j1, j2⟩ := st
    obtain ⟨xs, ys, qx, qy, hend⟩ := hg
    obtain ⟨is1, rv1, p1⟩ := sqx_is I qx
    obtain ⟨is2, rv2, p2⟩ := sqx_is I qy
    have n1 := rv1.length
    have n2 := rv2.length
    have he : is1.toArray[i]? = none ∨ is2.toArray[i]? = none := by
      rcases hend with q | q
      · exact .inl (by simp; omega)
      · exact .inr (by simp; omega)
    exact nextM_end (I.ok.hd hcm) ha hb hz tI tO j1 j2 p1 p2 he fun g hk => ⟨rfl, I.turnedL (t' := s.toks) (ch := [N + 4, N + 2, N + 3, N, N + 1]) (fun d o hn q =>
      hk d o (fun q' => hn (by simp [q'])) (fun q' => hn (by simp [q'])) (fun q' => hn (by simp [q'])) (fun q' => hn (by simp [q'])) q) hf⟩
  self := fun A i s Q E st h => wpAny_pyIter_zip st.1 h
def iZipM (K : PySem.W.Frag) (ta : TA) : TI := fun σ H R => ta σ H fun vs H1 => ∃ t1 t2 a b xs ys, vs = [.ref a, .ref b] ∧ SqX t1 K H1 a xs ∧ SqX t2 K H1 b ys ∧ R (ItM t1 t2 K a b) H1
theorem pi_zipM {X : Cx} {e e2 : Expr} {ta : TA} {p pos tpos : Pos} {elts : List Expr} {kk : Nat} (hg : Gl X "zip") (hm : X.mg "zip" = none) (ha : PA X [e, e2] ta)
    (hs : starEach [e, e2] X.env = (false, eval e X.env) :: starEach [e2] X.env := by rfl) (hpl : (backTo pos (starEach [e2] X.env)).any (·.1) = false := by rfl) :
    PI X (.Tuple elts kk tpos) (.Call (.Name "zip" p) [e, e2] [] pos) (iZipM X.K ta) := by
  refine ⟨fun pins s σ H R I h => ?_⟩
  refine Call_ (ld_blt I hg hm PyProof.Rows.boot_zip (PyProof.Rows.callWith_type1 (thn (ha.run pos pins s σ H _ I h) fun us s1 ⟨vs, H1, I1, r1, q1⟩ => ?_) hs hpl))
  obtain ⟨t1, t2, a, b, xs, ys, ex, qx, qy, q⟩ := q1
  subst ex
  cases r1 with
  | cons ra rr =>
    cases rr with
    | cons rb rr =>
      cases rr
      cases ra
      cases rb
      obtain ⟨is1, rv1, p1⟩ := sqx_is I1 qx
      obtain ⟨is2, rv2, p2⟩ := sqx_is I1 qy
      refine call_zipM p1 p2 fun g N hN hz tI tO j1 j2 hk => wpAny_pyIter_zip hz ?_
      have I2 : Inv X pins σ H1 { s1 with heap := g } := I1.kept (t' := s1.toks) hk
      refine ⟨N + 4, [N + 4, N + 2, N + 3, N, N + 1], _, _, H1, rfl, I2, turnM (by rw [hN]; exact p1.lt) (by rw [hN]; exact p2.lt), ⟨hz, tI, ⟨_, _, tO⟩, j1, j2⟩, fun d hd => ?_, q⟩
      have hle : s1.heap.objs.size ≤ d := by
        rw [← hN]
        rcases List.mem_cons.mp hd with q | hd
        · rw [q]; exact Nat.le_add_right _ _
        rcases List.mem_cons.mp hd with q | hd
        · rw [q]; exact Nat.le_add_right _ _
        rcases List.mem_cons.mp hd with q | hd
        · rw [q]; exact Nat.le_add_right _ _
        rcases List.mem_cons.mp hd with q | hd
        · rw [q]; exact Nat.le_refl _
        rcases List.mem_cons.mp hd with q | hd
        · rw [q]; exact Nat.le_add_right _ _
        cases hd
      exact I1.fpOk hle (I1.hok.fresh hle)
def fZipM (g : M (List D)) : M (List D) := g.bind fun l => match l with
  | [.tup x, .lst y] => M.pure (zipL x y)
  | [.lst x, .tup y] => M.pure (zipL x y)
  | _ => M.bad
section
variable {K : PySem.W.Frag} {ws : Wa} {B : Addr → Prop} {H : Hp}
theorem jok_zipM {t1 t2 : Bool} {a b : Addr} {xs ys : List V} {l m : List D} (hb : ∀ a, B a → H a ≠ none) (h : SqX t1 K H a xs) (r : DRs K ws B H xs l) (h' : SqX t2 K H b ys) (r' : DRs K ws B H ys m) : JOk K ws B (ItM t1 t2 K a b) (zipL l m) H := fun i => by
  refine ⟨fun d hd => ?_, fun hi => ⟨xs, ys, h, h', ?_⟩⟩
  · obtain ⟨x, y, h1, h2, rfl⟩ := zipL_get hd
    obtain ⟨v, q1, q2⟩ := r.get h1
    obtain ⟨u, q3, q4⟩ := r'.get h2
    refine ⟨⟨xs, ys, v, u, h, h', q1, q3⟩, fun z H' hy => ?_⟩
    obtain ⟨T, x', y', rfl, hT, rfl, f1, f2⟩ := hy
    have e1 := f1 xs h
    have e2 := f2 ys h'
    rw [q1] at e1
    rw [q3] at e2
    cases e1
    cases e2
    exact ⟨Grow.new hT, dr_pair hT hb q2 q4⟩
  · rw [zipL_len] at hi
    rw [r.length, r'.length]
    omega
end
theorem mi_zipM {X : Cx} {Wx : WX} {a b : Expr} {pos p tpos : Pos} {elts : List Expr} {kk : Nat} {g : An} (hm : X.mg "zip" = none) (ha : PAm X Wx [a, b] g) (hg : Gl X "zip" := by rfl)
    (hs : starEach [a, b] X.env = (false, eval a X.env) :: starEach [b] X.env := by rfl) (hpl : (backTo pos (starEach [b] X.env)).any (·.1) = false := by rfl) : PIm X Wx (.Tuple elts kk tpos) (.Call (.Name "zip" p) [a, b] [] pos) (fun sl => fZipM (g sl)) := by
  refine (pi_zipM hg hm ha hs hpl).mimp fun σ H R ⟨ws, B0, sl, w, e, h⟩ => ?_
  refine ⟨ws, B0, sl, w, e, (runAt.bind h).mono fun ws1 w1 ds H1 l1 e1 h1 vs hv => ?_⟩
  split at h1
  · rename_i x y
    match vs, hv with
    | _, .cons (.tup z1 t1 r1) (.cons (.lst z2 n2 h2 r2) .nil) =>
      have t2 : Lp X.K (Bad ws1 B0 sl σ) H1 _ _ := .inl ⟨n2, .inl h2⟩
      exact ⟨false, true, _, _, _, _, rfl, t1.sq, t2.sq, runAt.here e1 h1 _ (by rw [zipL_len]; omega) fun ws' B' H' hw hk hB hd => jok_zipM (t1 := false) (t2 := true) hd (Tp.keep hk hB t1).sq (r1.keep hw hk hB) (Lp.keep hk hB t2).sq (r2.keep hw hk hB)⟩
  · rename_i x y
    match vs, hv with
    | _, .cons (.lst z2 n2 h2 r2) (.cons (.tup z1 t1 r1) .nil) =>
      have t2 : Lp X.K (Bad ws1 B0 sl σ) H1 _ _ := .inl ⟨n2, .inl h2⟩
      exact ⟨true, false, _, _, _, _, rfl, t2.sq, t1.sq, runAt.here e1 h1 _ (by rw [zipL_len]; omega) fun ws' B' H' hw hk hB hd => jok_zipM (t1 := true) (t2 := false) hd (Lp.keep hk hB t2).sq (r2.keep hw hk hB) (Tp.keep hk hB t1).sq (r1.keep hw hk hB)⟩
  · exact h1.elim
end Pm
namespace Pm
open PySem PySem.Spec PyProof.Rows L2
/-! ### x or y, of any kind -/
def fOrT (f g : M D) : M D := f.bind fun x => (M.opt (truD x)).bind fun b => if b = true then M.pure x else g
theorem m_orT {X : Cx} {Wx : WX} {a b : Expr} {rest : List Expr} {pos : Pos} {f g : Dn} (ha : PEm X Wx a f) (hb : PEm X Wx (.BoolOp .Or (b :: rest) pos) g) : PEm X Wx (.BoolOp .Or (a :: b :: rest) pos) (fun sl => fOrT (f sl) (g sl)) := by
  refine (pe_orT ha hb).mimp fun σ H Q ⟨ws, B0, sl, w, e, h⟩ => ?_
  refine ⟨ws, B0, sl, w, e, (runAt.bind h).mono fun ws1 w1 d H1 l1 e1 h1 v hv => ?_⟩
  cases q3 : truD d with
  | none => rw [q3] at h1; exact h1.elim
  | some k =>
    rw [q3] at h1
    refine ⟨k, tru_of (e1.rv (.inr hv) (rdb_tru q3)) q3, ?_⟩
    cases k with
    | true => exact runAt.here e1 h1 _ hv
    | false => exact ⟨ws1, B0, sl, w1, e1, h1⟩
end Pm
namespace Pm
open PySem PySem.Spec PyProof.Rows L2

/-! ### objects of the world -/
mutual
/-- made of tuples alone -/
def okt : D → Bool
  | .non => true
  | .bl _ => true
  | .int _ => true
  | .str _ => true
  | .tup l => okts l
  | _ => false
def okts : List D → Bool
  | [] => true
  | d :: r => okt d && okts r
end
section
variable {K : PySem.W.Frag} {ws : Wa} {B0 B : Addr → Prop} {sl : Ls} {w : W} {σ : L2.St} {H : Hp} {v : V} {d : D}
mutual
theorem DR.tr : ∀ {v : V} {d : D}, DR K ws B H v d → okt d = true → TR K H v d
  | _, _, .non, _ => .non
  | _, _, .bl b, _ => .bl b
  | _, _, .int i, _ => .int i
  | _, _, .str x, _ => .str x
  | _, _, .tup z h r, q => .tup z (h.imp (fun y => y.2) id) (DRs.tr r (by simpa [okt] using q))
  | _, _, .lst _ _ _ _, q => by simp [okt] at q
  | _, _, .scr _ _, q => by simp [okt] at q
  | _, _, .dk _ _ _ _, q => by simp [okt] at q
  | _, _, .dt _ _ _ _, q => by simp [okt] at q
  | _, _, .town _, q => by simp [okt] at q
  | _, _, .obj _, q => by simp [okt] at q
  | _, _, .fn _ _ _ _ _ _, q => by simp [okt] at q
theorem DRs.tr : ∀ {vs : List V} {ds : List D}, DRs K ws B H vs ds → okts ds = true → TRs K H vs ds
  | _, _, .nil, _ => .nil
  | _, _, .cons h r, q => by
    simp only [okts, Bool.and_eq_true] at q
    exact .cons (DR.tr h q.1) (DRs.tr r q.2)
end
mutual
theorem TR.dr (hB : ∀ a xs, Rd H a (.tup xs) → ¬ B a) : ∀ {v : V} {d : D}, TR K H v d → DR K ws B H v d
  | _, _, .non => .non
  | _, _, .bl b => .bl b
  | _, _, .int i => .int i
  | _, _, .str x => .str x
  | _, _, .tup z h r => .tup z (h.imp (fun y => ⟨hB _ _ y, y⟩) id) (TRs.dr hB r)
theorem TRs.dr (hB : ∀ a xs, Rd H a (.tup xs) → ¬ B a) : ∀ {vs : List V} {ds : List D}, TRs K H vs ds → DRs K ws B H vs ds
  | _, _, .nil => .nil
  | _, _, .cons h r => .cons (TR.dr hB h) (TRs.dr hB r)
end
mutual
theorem TR.okt : ∀ {v : V} {d : D}, TR K H v d → Pm.okt d = true
  | _, _, .non => rfl
  | _, _, .bl b => rfl
  | _, _, .int i => rfl
  | _, _, .str x => rfl
  | _, _, .tup z h r => by simp only [Pm.okt]; exact TRs.okts r
theorem TRs.okts : ∀ {vs : List V} {ds : List D}, TRs K H vs ds → Pm.okts ds = true
  | _, _, .nil => rfl
  | _, _, .cons h r => by simp only [Pm.okts, Bool.and_eq_true]; exact ⟨TR.okt h, TRs.okts r⟩
end
theorem TRs.length : ∀ {vs : List V} {ds : List D}, TRs K H vs ds → vs.length = ds.length
  | _, _, .nil => rfl
  | _, _, .cons _ r => congrArg (· + 1) (TRs.length r)
theorem TRs.set (h : TR K H v d) : ∀ {vs : List V} {ds : List D} (i : Nat), TRs K H vs ds → TRs K H (vs.set i v) (ds.set i d)
  | _, _, _, .nil => .nil
  | _, _, 0, .cons _ t => .cons h t
  | _, _, i + 1, .cons q t => .cons q (TRs.set h i t)
theorem TRs.append : ∀ {vs us : List V} {ds es : List D}, TRs K H vs ds → TRs K H us es → TRs K H (vs ++ us) (ds ++ es)
  | _, _, _, _, .nil, s => s
  | _, _, _, _, .cons h r, s => .cons h (TRs.append r s)
theorem Env.ntup (e : Env K ws B0 sl w σ H) {a : Addr} {xs : List V} (h : Rd H a (.tup xs)) : ¬ Bad ws B0 sl σ a := fun z => by
  have no : ∀ vs, H a ≠ some (.lst vs) := fun vs q => by
    rcases h with h | ⟨o, h⟩ <;> rw [q] at h <;> cases h
  rcases z with (z | z | z) | z
  · have hw := e.wr.1
    unfold TW at hw
    rw [z] at hw
    cases q : w.town with
    | none => rw [q] at hw; exact hw.elim
    | some l => rw [q] at hw; exact no _ hw
  · rw [e.wr.2.1] at z
    obtain ⟨p, hp, rfl⟩ := List.mem_map.mp z
    obtain ⟨ps, h1, _⟩ := e.wr.2.2 p hp
    rcases h with h | ⟨o, h⟩ <;> rw [h1] at h <;> cases h
  · obtain ⟨vs, q⟩ := e.wr.3.lv_lst z
    exact no _ q
  · exact (e.bxs a z).2.nt h
theorem Env.dr (e : Env K ws B0 sl w σ H) (h : TR K H v d) : DR K ws (Bad ws B0 sl σ) H v d := h.dr fun _ _ => e.ntup
theorem Env.drs (e : Env K ws B0 sl w σ H) {vs : List V} {ds : List D} (h : TRs K H vs ds) : DRs K ws (Bad ws B0 sl σ) H vs ds := h.dr fun _ _ => e.ntup
theorem DR.obj_of {k : Nat} (h : DR K ws B H v (.obj k)) : ∃ a b, v = .ref a ∧ ws.ob[k]? = some (a, b) := by
  cases h with
  | obj h => exact ⟨_, _, rfl, h⟩
/-- a list of the world -/
theorem Env.objL (e : Env K ws B0 sl w σ H) {k : Nat} {ds : List D} (h : DR K ws B H v (.obj k)) (q : w.objs[k]? = some (some (.lst ds))) :
    ∃ a vs, v = .ref a ∧ ws.ob[k]? = some (a, true) ∧ H a = some (.lst vs) ∧ ds.length ≤ sizeLine ∧ TRs K H vs ds := by
  obtain ⟨a, b, rfl, h1⟩ := h.obj_of
  obtain ⟨a', h2, vs, h3, h4, h5⟩ := e.wr.3.live k _ q
  rw [h1] at h2
  cases h2
  exact ⟨a, vs, rfl, h1, h3, h4, h5⟩
theorem Env.obj_dw (e : Env K ws B0 sl w σ H) {k : Nat} {ds : List D} (h : DR K ws B H v (.obj k)) (q : w.objs[k]? = some (some (.lst ds))) : DW K ws (Bad ws B0 sl σ) H v (.lst ds) := by
  obtain ⟨a, vs, rfl, h1, h2, h3, h4⟩ := e.objL h q
  exact ⟨h3, a, vs, rfl, h2, e.drs h4⟩
/-- the world's list of draws stands as it stood -/
theorem TW.same {ws ws' : Wa} {w w' : W} (h1 : ws'.town = ws.town) (h2 : w'.town = w.town) (h : TW ws w H) : TW ws' w' H := by
  unfold TW at *; rw [h1, h2]; exact h
/-- a new list of the world -/
theorem Env.alloc (e : Env K ws B0 sl w σ H) {p : Addr} {vs : List V} {ds : List D} (hp : H p = none) (hz : ds.length ≤ sizeLine) (r : TRs K H vs ds) :
    Le ws (Own sl σ) H ⟨ws.town, ws.tabs, ws.ob ++ [(p, true)]⟩ (Own sl σ) (upd H p (.lst vs)) ∧ Env K ⟨ws.town, ws.tabs, ws.ob ++ [(p, true)]⟩ B0 sl ⟨w.town, w.objs ++ [some (.lst ds)]⟩ σ (upd H p (.lst vs)) := by
  have g := Grow.new (o := .lst vs) hp
  have hob := e.wr.3
  have hlv : ∀ a, (a, true) ∈ ws.ob ++ [(p, true)] → ws.lv a ∨ a = p := fun a z => by
    rcases List.mem_append.mp z with z | z
    · exact .inl z
    · simp at z; exact .inr z
  have hob_at : ∀ {k : Nat} {a : Addr} {b : Bool}, ws.ob[k]? = some (a, b) → (ws.ob ++ [(p, true)])[k]? = some (a, b) := fun {k a b} z => by
    rw [List.getElem?_append_left (List.getElem?_eq_some_iff.mp z).1]; exact z
  have new : ∀ a, Wa.has ⟨ws.town, ws.tabs, ws.ob ++ [(p, true)]⟩ a → ws.has a ∨ a = p := fun a z => by
    rcases z with z | z | z
    · exact .inl (.inl z)
    · exact .inl (.inr (.inl z))
    · exact (hlv a z).imp (fun q => .inr (.inr q)) id
  have l : Le ws (Own sl σ) H ⟨ws.town, ws.tabs, ws.ob ++ [(p, true)]⟩ (Own sl σ) (upd H p (.lst vs)) :=
    ⟨⟨fun _ z => z, fun _ _ b z => ⟨b, hob_at z⟩⟩, fun a z => (new a z).imp id fun q => by rw [q]; exact hp, fun _ z => .inl z, fun a o z _ _ => g a o z, g.ex⟩
  refine ⟨l, ⟨e.len, ⟨(e.wr.1.grow g).same rfl rfl, e.wr.2.grow g, ?_⟩, e.bx.keep e.dom l.new (fun a o _ z => g a o z), fun a h z => e.dom a h (g.ex a z), fun j dj hj => ?_, fun j dj hj => ?_, e.uq⟩⟩
  · have hg := hob.grow g
    have split : ∀ {k : Nat} {a : Addr} {b : Bool}, (ws.ob ++ [(p, true)])[k]? = some (a, b) → ws.ob[k]? = some (a, b) ∨ (k = ws.ob.length ∧ a = p) := fun {k a b} z => by
      by_cases q : k < ws.ob.length
      · rw [List.getElem?_append_left q] at z; exact .inl z
      · rw [List.getElem?_append_right (by omega)] at z
        have : k - ws.ob.length = 0 := by
          have := (List.getElem?_eq_some_iff.mp z).1
          simp at this; omega
        rw [this] at z
        simp at z
        exact .inr ⟨by omega, z.1.symm⟩
    have nop : ∀ {k : Nat} {b : Bool}, ws.ob[k]? = some (p, true) → False := fun {k b} z => by
      obtain ⟨vs, y⟩ := hob.lv_lst (List.mem_iff_getElem?.mpr ⟨k, z⟩)
      rw [hp] at y; cases y
    refine ⟨by simp [hob.len], fun k o z => ?_, fun k z => ?_, fun j k a z1 z2 => ?_, fun a z => ?_⟩
    · by_cases q : k < w.objs.length
      · rw [List.getElem?_append_left q] at z
        obtain ⟨a, h1, h2⟩ := hg.live k o z
        exact ⟨a, hob_at h1, h2⟩
      · rw [List.getElem?_append_right (by omega)] at z
        have hk : k - w.objs.length = 0 := by
          have := (List.getElem?_eq_some_iff.mp z).1
          simp at this; omega
        rw [hk] at z
        simp at z
        subst z
        refine ⟨p, ?_, vs, upd_same, hz, r.keep fun a xs y => g.rd y⟩
        rw [List.getElem?_append_right (by rw [hob.len]; omega)]
        rw [hob.len, hk]; rfl
    · by_cases q : k < w.objs.length
      · rw [List.getElem?_append_left q] at z
        obtain ⟨a, h1⟩ := hg.dead k z
        exact ⟨a, hob_at h1⟩
      · rw [List.getElem?_append_right (by omega)] at z
        have hk : k - w.objs.length = 0 := by
          have := (List.getElem?_eq_some_iff.mp z).1
          simp at this; omega
        rw [hk] at z
        simp at z
    · rcases split z1 with u1 | ⟨q1, y1⟩ <;> rcases split z2 with u2 | ⟨q2, y2⟩
      · exact hob.nd j k a u1 u2
      · rw [y2] at u1; exact (nop (b := true) u1).elim
      · rw [y1] at u2; exact (nop (b := true) u2).elim
      · omega
    · rcases hlv a z with z | z
      · exact hob.nt a z
      · rw [z]
        exact fun q => e.wd p (.inl q) hp
  · obtain ⟨u, h1, h2⟩ := e.va j dj hj
    exact ⟨u, h1, h2.le l⟩
  · obtain ⟨b, h1, h2, h3, h4⟩ := e.ow j dj hj
    refine ⟨b, h1, h2.le l fun u hu => g _ _ hu, fun z => ?_, h4⟩
    rcases new b z with q | q
    · exact h3 q
    · exact h2.there (by rw [q]; exact hp)
/-- a list of the world is changed -/
theorem Env.mutObj (e : Env K ws B0 sl w σ H) {k : Nat} {a : Addr} {vs vs' : List V} {ds ds' : List D} (hk : ws.ob[k]? = some (a, true)) (q : w.objs[k]? = some (some (.lst ds))) (ha : H a = some (.lst vs)) (hz : ds'.length ≤ sizeLine) (r : TRs K H vs' ds') :
    Le ws (Own sl σ) H ws (Own sl σ) (upd H a (.lst vs')) ∧ Env K ws B0 sl ⟨w.town, w.objs.set k (some (.lst ds'))⟩ σ (upd H a (.lst vs')) := by
  have hlv : ws.lv a := List.mem_iff_getElem?.mpr ⟨k, hk⟩
  have hhas : ws.has a := .inr (.inr hlv)
  have hb : BxO (H a) := by rw [ha]; trivial
  have ex := upd_ex (o := .lst vs') (sm ha)
  have le : Le ws (Own sl σ) H ws (Own sl σ) (upd H a (.lst vs')) := by
    refine ⟨ws.le_refl, fun _ h => .inl h, fun _ h => .inl h, fun b u h n _ => ?_, ex⟩
    rw [upd_ne (fun z => n (by rw [z]; exact hhas))]; exact h
  have ht : ∀ b xs, Rd H b (.tup xs) → Rd (upd H a (.lst vs')) b (.tup xs) := fun b xs z => rd_upd hb z
  have hob := e.wr.3
  refine ⟨le, ⟨e.len, ⟨?_, ?_, ?_⟩, e.bx.keep e.dom (fun _ z => .inl z) (fun b u hb z => by rw [upd_ne (fun q => (e.bx b hb).1 (by rw [q]; exact hhas))]; exact z), fun b h z => e.dom b h (ex b z), fun j dj hj => ?_, fun j dj hj => ?_, e.uq⟩⟩
  · have hw := e.wr.1
    unfold TW at hw ⊢
    split
    · trivial
    · rename_i l t e1 e2
      have e1 : w.town = some l := e1
      rw [e1, e2] at hw
      rw [upd_ne (fun z => hob.nt a hlv (by rw [← z]; exact e2))]
      exact hw
    · rename_i h1 h2
      split at hw
      · rename_i e1 e2; exact h1 e1 e2
      · rename_i e1 e2; exact h2 _ _ e1 e2
      · exact hw
  · refine ⟨e.wr.2.1, tabs_keep (fun p hp ps z => ?_) (fun c y z => ?_) e.wr.2.2⟩
    · rw [upd_ne (fun y => by rw [y, ha] at z; cases z)]; exact z
    · rw [upd_ne (fun y => by rw [y, ha] at z; cases z)]; exact z
  · refine ⟨by simp [hob.len], fun j o z => ?_, fun j z => ?_, hob.nd, hob.nt⟩
    · rcases get_set z with ⟨rfl, z, _⟩ | ⟨n, z⟩
      · cases z
        exact ⟨a, hk, vs', upd_same, hz, r.keep ht⟩
      · obtain ⟨b, h1, h2⟩ := hob.live j o z
        refine ⟨b, h1, h2.keep ht fun u y => ?_⟩
        rw [upd_ne (fun y => n (hob.nd j k a (by rw [← y]; exact h1) hk))]; exact y
    · rcases get_set z with ⟨rfl, z, _⟩ | ⟨n, z⟩
      · cases z
      · exact hob.dead j z
  · obtain ⟨u, h1, h2⟩ := e.va j dj hj
    exact ⟨u, h1, h2.le le⟩
  · obtain ⟨b, h1, h2, h3, h4⟩ := e.ow j dj hj
    refine ⟨b, h1, h2.le le fun u hu => ?_, h3, h4⟩
    rw [upd_ne (fun z => h3 (by rw [z]; exact hhas))]
    exact hu
/-- a list of the world will not be changed any more -/
theorem Env.frzObj (e : Env K ws B0 sl w σ H) {k : Nat} {a : Addr} {ds : List D} (hk : ws.ob[k]? = some (a, true)) (q : w.objs[k]? = some (some (.lst ds))) :
    Le ws (Own sl σ) H ⟨ws.town, ws.tabs, ws.ob.set k (a, false)⟩ (Own sl σ) H ∧ Env K ⟨ws.town, ws.tabs, ws.ob.set k (a, false)⟩ B0 sl ⟨w.town, w.objs.set k none⟩ σ H ∧ DR K ⟨ws.town, ws.tabs, ws.ob.set k (a, false)⟩ (Bad ⟨ws.town, ws.tabs, ws.ob.set k (a, false)⟩ B0 sl σ) H (.ref a) (.lst ds) := by
  have hlv : ws.lv a := List.mem_iff_getElem?.mpr ⟨k, hk⟩
  have hhas : ws.has a := .inr (.inr hlv)
  have hob := e.wr.3
  have sub : ∀ b, (b, true) ∈ ws.ob.set k (a, false) → ws.lv b ∧ b ≠ a := fun b z => by
    obtain ⟨j, hj⟩ := List.mem_iff_getElem?.mp z
    rcases get_set hj with ⟨_, y, _⟩ | ⟨n, y⟩
    · cases y
    · exact ⟨List.mem_iff_getElem?.mpr ⟨j, y⟩, fun z => n (hob.nd j k a (by rw [← z]; exact y) hk)⟩
  have new : ∀ b, Wa.has ⟨ws.town, ws.tabs, ws.ob.set k (a, false)⟩ b → ws.has b := fun b z => by
    rcases z with z | z | z
    · exact .inl z
    · exact .inr (.inl z)
    · exact .inr (.inr (sub b z).1)
  have le : Le ws (Own sl σ) H ⟨ws.town, ws.tabs, ws.ob.set k (a, false)⟩ (Own sl σ) H := by
    refine ⟨⟨fun _ z => z, fun j b t z => ?_⟩, fun b z => .inl (new b z), fun _ h => .inl h, fun b u h n _ => h, fun _ z => z⟩
    by_cases y : j = k
    · subst y
      rw [hk] at z
      cases z
      exact ⟨false, by rw [List.getElem?_set_self (List.getElem?_eq_some_iff.mp hk).1]⟩
    · exact ⟨t, by rw [List.getElem?_set_ne (Ne.symm y)]; exact z⟩
  obtain ⟨a', h1, vs, h2, h3, h4⟩ := hob.live k _ q
  rw [hk] at h1
  cases h1
  have E : Env K ⟨ws.town, ws.tabs, ws.ob.set k (a, false)⟩ B0 sl ⟨w.town, w.objs.set k none⟩ σ H := by
    refine ⟨e.len, ⟨e.wr.1.same rfl rfl, e.wr.2, ?_⟩, fun b z => ⟨fun y => (e.bx b z).1 (new b y), (e.bx b z).2⟩, e.dom, fun j dj hj => ?_, fun j dj hj => ?_, e.uq⟩
    · refine ⟨by simp [hob.len], fun j o z => ?_, fun j z => ?_, fun i j b z1 z2 => ?_, fun b z => hob.nt b (sub b z).1⟩
      · rcases get_set z with ⟨_, z, _⟩ | ⟨n, z⟩
        · cases z
        · obtain ⟨b, y1, y2⟩ := hob.live j o z
          exact ⟨b, by rw [List.getElem?_set_ne (Ne.symm n)]; exact y1, y2⟩
      · rcases get_set z with ⟨rfl, z, _⟩ | ⟨n, z⟩
        · exact ⟨a, by rw [List.getElem?_set_self (List.getElem?_eq_some_iff.mp hk).1]⟩
        · obtain ⟨b, y1⟩ := hob.dead j z
          exact ⟨b, by rw [List.getElem?_set_ne (Ne.symm n)]; exact y1⟩
      · rcases get_set z1 with ⟨_, y, _⟩ | ⟨_, y1⟩
        · cases y
        · rcases get_set z2 with ⟨_, y, _⟩ | ⟨_, y2⟩
          · cases y
          · exact hob.nd i j b y1 y2
    · obtain ⟨u, z1, z2⟩ := e.va j dj hj
      exact ⟨u, z1, z2.le le⟩
    · obtain ⟨b, z1, z2, z3, z4⟩ := e.ow j dj hj
      exact ⟨b, z1, z2.le le fun u hu => hu, fun y => z3 (new b y), z4⟩
  refine ⟨le, E, .lst h3 (fun z => ?_) h2 (E.drs h4)⟩
  rcases z with (z | z | z) | z | ⟨i, di, y1, y2⟩
  · exact hob.nt a hlv z
  · rw [e.wr.2.1] at z
    obtain ⟨p, hp, y⟩ := List.mem_map.mp z
    obtain ⟨ps, y1, _⟩ := e.wr.2.2 p hp
    rw [y, h2] at y1; cases y1
  · exact (sub a z).2 rfl
  · exact (e.bx a z).1 hhas
  · obtain ⟨b, z1, _, z3, _⟩ := e.ow i di y1
    rw [y2] at z1
    cases z1
    exact z3 hhas
end
/-! ### list(e), a new list of the world -/
def seqD : D → Option (List D)
  | .tup l => some l
  | .lst l => some l
  | _ => none
def newO (ds : List D) : M D := fun w => if okts ds = true ∧ ds.length ≤ sizeLine then .ok (.obj w.objs.length) ⟨w.town, w.objs ++ [some (.lst ds)]⟩ else .bad
def fNewH (g : M (List D)) : M D := g.bind fun l => match l with
  | [x] => (M.opt (seqD x)).bind newO
  | _ => M.bad
theorem newO_ok {ds : List D} {w w' : W} {d : D} (h : newO ds w = .ok d w') : okts ds = true ∧ ds.length ≤ sizeLine ∧ d = .obj w.objs.length ∧ w' = ⟨w.town, w.objs ++ [some (.lst ds)]⟩ := by
  unfold newO at h
  split at h
  · rename_i z; cases h; exact ⟨z.1, z.2, rfl, rfl⟩
  · cases h
section
variable {X : Cx} {Wx : WX} {a b c e : Expr} {es : List Expr} {pos p : Pos} {x : Str}
theorem newO_run {K : PySem.W.Frag} {mg : Str → Option Value} {ws : Wa} {B0 : Addr → Prop} {sl : Ls} {w : W} {σ : L2.St} {H : Hp} {ds : List D} {k : Wa → W → D → Hp → Prop} (h : runAt K mg Wx ws B0 sl σ H (newO ds w) k) : okts ds = true ∧ ds.length ≤ sizeLine ∧ runAt K mg Wx ws B0 sl σ H (.ok (.obj w.objs.length) ⟨w.town, w.objs ++ [some (.lst ds)]⟩) k := by
  unfold newO at h
  split at h
  · rename_i z; exact ⟨z.1, z.2, h⟩
  · exact h.elim
theorem fNewH_go {K : PySem.W.Frag} {mg : Str → Option Value} {g : An} (σ : L2.St) (H : Hp) (Q : VK) (h : tE K mg Wx (fun sl => fNewH (g sl)) σ H Q) : tCB (fun xs H Q => ∃ p ys, xs = [.ref p] ∧ (SqL K H p ys ∨ SqT K H p ys) ∧ ∀ l, H l = none → Q (.ref l) (upd H l (.lst ys))) (tAr K mg Wx g) σ H Q := by
  obtain ⟨ws, B0, sl, w, e, h⟩ := h
  refine ⟨ws, B0, sl, w, e, (runAt.bind h).mono fun ws1 w1 ds H1 l1 e1 h1 vs hv => ?_⟩
  match ds, h1, hv with
  | [], h1, _ => exact h1.elim
  | _ :: _ :: _, h1, _ => exact h1.elim
  | [x], h1, .cons hv0 .nil =>
    obtain ⟨ds, hx, h2⟩ := runAt.opt (o := seqD x) (by
      have := runAt.bind (m := M.opt (seqD x)) (g := newO) h1
      exact this)
    have h3 := runAt.here e1 h2
    obtain ⟨ho, hz, h4⟩ := newO_run h3
    have fin : ∀ (us : List V) (l : Addr), H1 l = none → DRs K ws1 (Bad ws1 B0 sl σ) H1 us ds → Q (.ref l) (upd H1 l (.lst us)) := fun us l hl r => by
      obtain ⟨l5, e5⟩ := e1.alloc hl hz (r.tr ho)
      exact h4 _ _ l5 e5 _ (.obj (b := true) (by rw [List.getElem?_append_right (by rw [e1.wr.3.len]; omega), e1.wr.3.len, Nat.sub_self]; rfl))
    cases x <;> first | (cases hx; done) | skip
    · cases hx
      obtain ⟨_, a, us, rfl, t, r⟩ := e1.rv hv0 rfl
      exact ⟨a, us, rfl, .inr t.sq, fun l hl => fin us l hl r⟩
    · cases hx
      obtain ⟨_, a, us, rfl, t, r⟩ := e1.rv hv0 rfl
      exact ⟨a, us, rfl, .inl (.inl (.inl t)), fun l hl => fin us l hl r⟩
theorem m_newH {g : An} (ha : PArm X Wx [a] g) (hm : X.mg "list" = none) (hg : Gl X "list" := by rfl) (he : starEach [a] X.env = (false, eval a X.env) :: starEach [] X.env := by rfl) : PEm X Wx (.Call (.Name "list" p) [a] [] pos) (fun sl => fNewH (g sl)) :=
  (pe_callTy call_list_of hg hm (by decide +kernel) ha (by decide) (by decide) he rfl).mimp fun σ H Q h => fNewH_go σ H Q h
end
/-! ### o[i], o a list of the world -/
def ixO (o i : D) : M D := fun w => match o with
  | .obj k => (match w.objs[k]? with
    | some (some (.lst ds)) => M.opt (ixD (.lst ds) i) w
    | _ => .bad)
  | _ => .bad
def fIxH (x y : M D) : M D := x.bind fun a => y.bind fun b => ixO a b
def stO (o i v : D) : M D := fun w => match o, i with
  | .obj k, .int j => (match w.objs[k]? with
    | some (some (.lst ds)) => (match ixN ds.length j with
      | some n => if okt v = true then .ok .non ⟨w.town, w.objs.set k (some (.lst (ds.set n v)))⟩ else .bad
      | none => .bad)
    | _ => .bad)
  | _, _ => .bad
section
variable {K : PySem.W.Frag} {mg : Str → Option Value} {Wx : WX} {ws : Wa} {B0 : Addr → Prop} {sl : Ls} {w : W} {σ : L2.St} {H : Hp}
theorem ixO_run {o i : D} {k : Wa → W → D → Hp → Prop} (h : runAt K mg Wx ws B0 sl σ H (ixO o i w) k) : ∃ n ds d, o = .obj n ∧ w.objs[n]? = some (some (.lst ds)) ∧ ixD (.lst ds) i = some d ∧ runAt K mg Wx ws B0 sl σ H (.ok d w) k := by
  unfold ixO at h
  split at h
  · rename_i n
    split at h
    · rename_i ds q
      obtain ⟨d, h1, h2⟩ := runAt.opt h
      exact ⟨n, ds, d, rfl, q, h1, h2⟩
    · exact h.elim
  · exact h.elim
theorem stO_run {o i v : D} {g : D → M D} {nx bk ct : Kn} {D0 : Ends} (h : Ans K mg Wx ws B0 sl σ H (M.bind (stO o i v) g w) nx bk ct D0) : ∃ k j ds n, o = .obj k ∧ i = .int j ∧ w.objs[k]? = some (some (.lst ds)) ∧ ixN ds.length j = some n ∧ okt v = true ∧ Ans K mg Wx ws B0 sl σ H (g .non ⟨w.town, w.objs.set k (some (.lst (ds.set n v)))⟩) nx bk ct D0 := by
  have bad : ∀ {m : M D}, m w = .bad → M.bind m g w = .bad := fun {m} q => by unfold M.bind; rw [q]
  have ok : ∀ {m : M D} {w1 : W}, m w = .ok .non w1 → M.bind m g w = g .non w1 := fun {m w1} q => by unfold M.bind; rw [q]
  cases o <;> try exact absurd (bad rfl) h.nb
  cases i <;> try exact absurd (bad rfl) h.nb
  rename_i k j
  cases q : w.objs[k]? with
  | none => exact absurd (bad (by simp only [stO, q])) h.nb
  | some x =>
    cases x with
    | none => exact absurd (bad (by simp only [stO, q])) h.nb
    | some ob =>
      cases ob with
      | ins c fs => exact absurd (bad (by simp only [stO, q])) h.nb
      | lst ds =>
        cases q2 : ixN ds.length j with
        | none => exact absurd (bad (by simp only [stO, q, q2])) h.nb
        | some n =>
          by_cases z : okt v = true
          · rw [ok (w1 := ⟨w.town, w.objs.set k (some (.lst (ds.set n v)))⟩) (by simp only [stO, q, q2, if_pos z])] at h
            exact ⟨k, j, ds, n, rfl, rfl, q, q2, z, h⟩
          · exact absurd (bad (by simp only [stO, q, q2, if_neg z])) h.nb
end
section
variable {X : Cx} {Wx : WX} {a b c e : Expr} {es : List Expr} {pos p : Pos} {x : Str}
theorem m_ixH {f g : Dn} (ha : PEm X Wx a f) (hb : PRm X Wx b g) (hs : PlainIx b := by exact fun _ _ => rfl) : PEm X Wx (.Subscript a b pos) (fun sl => fIxH (f sl) (g sl)) := by
  refine (pe_ix ix_seq ha hb hs).mimp fun σ H Q ⟨ws, B0, sl, w, e, h⟩ => ?_
  refine ⟨ws, B0, sl, w, e, (runAt.bind h).mono fun ws1 w1 x H1 l1 e1 h1 v hv => ?_⟩
  refine ⟨ws1, B0, sl, w1, e1, (runAt.bind h1).mono fun ws2 w2 y H2 l2 e2 h2 u hu => ?_⟩
  obtain ⟨n, ds, d, rfl, q1, q2, h3⟩ := ixO_run h2
  exact so_ix ws2 _ H2 v u _ y d Q e2.bad (e2.obj_dw (hv.le l2) q1) (e2.rv hu (ot_ix _ _ _ q2).2) q2 fun v' H' g hd => runAt.grow g e2 h3 v' hd
/-- a[j] = e, a a list of the world -/
theorem ms_subH {j : Expr} {tpos : Pos} {f g h : Dn} (ha : PEm X Wx a f) (hi : PEm X Wx j g) (he : PEm X Wx e h)
    (has : ∀ v, assign (.Subscript a j tpos) X.env v = (do
      let ov ← holding [v] (eval a X.env)
      let iv ← holding [v, ov] (eval j X.env)
      standAt tpos
      holding [v, ov, iv] (setItem ov iv v)
      release [v, ov, iv] []) := by intro _; rfl)
    (hs : swapsWithSole [.Subscript a j tpos] e pos.line X.env = pure false := by rfl) (hw : swappedStores [.Subscript a j tpos] e X.env = pure none := by rfl)
    (h1 : (assignEach [.Subscript a j tpos] X.env).map (·.2) = [assign (.Subscript a j tpos) X.env] := by rfl) :
    PSm X Wx (.Assign [.Subscript a j tpos] e pos) (fun nx _ _ sl => (h sl).bind fun v => (f sl).bind fun o => (g sl).bind fun i => (stO o i v).bind fun _ => nx sl) := by
  refine (ps_asg he (pg_sub ha hi set_list has) hs hw h1).mimp fun D0 σ H ⟨ws, B0, sl, w, nx, bk, ct, e, q⟩ => ?_
  refine ⟨ws, B0, sl, w, e, (Ans.bind q).mono fun ws1 w1 v H1 l1 e1 q1 u hu => ?_⟩
  refine ⟨ws1, B0, sl, w1, e1, (Ans.bind q1).mono fun ws2 w2 o H2 l2 e2 q2 x hx => ?_⟩
  refine ⟨ws2, B0, sl, w2, e2, (Ans.bind q2).mono fun ws3 w3 i H3 l3 e3 q3 y hy => ?_⟩
  obtain ⟨k, jj, ds, n, rfl, rfl, r1, r2, r3, q4⟩ := stO_run q3
  obtain ⟨a', vs, rfl, p1, p2, p3, p4⟩ := e3.objL (hx.le l3) r1
  cases hy
  have hl := p4.length
  obtain ⟨l5, e5⟩ := e3.mutObj (vs' := vs.set n u) (ds' := ds.set n v) p1 r1 p2 (by simpa using p3) (p4.set (((hu.le l2).le l3).tr r3) n)
  exact ⟨a', vs, jj, n, rfl, rfl, p2, by rw [hl]; exact r2, q4.nx _ _ _ _ _ l5 e5 rfl⟩
end
/-! ### lists of the world that will not be changed any more -/
def frzL : List D → W → Option (List D × W)
  | [], w => some ([], w)
  | .obj k :: r, w => (match w.objs[k]? with
    | some (some (.lst ds)) => (match frzL r ⟨w.town, w.objs.set k none⟩ with
      | some (es, w') => some (.lst ds :: es, w')
      | none => none)
    | _ => none)
  | _ :: _, _ => none
def frzD (d : D) : M D := fun w => match d with
  | .lst l => (match frzL l w with
    | some (es, w') => .ok (.lst es) w'
    | none => .bad)
  | _ => .bad
def fFrz (x : M D) : M D := x.bind frzD
section
variable {K : PySem.W.Frag} {mg : Str → Option Value} {Wx : WX} {B0 : Addr → Prop} {sl : Ls} {σ : L2.St} {H : Hp}
theorem frzL_go : ∀ (l : List D) {ws : Wa} {w w' : W} {vs : List V} {es : List D}, Env K ws B0 sl w σ H → DRs K ws (Bad ws B0 sl σ) H vs l → frzL l w = some (es, w') →
    ∃ ws', Le ws (Own sl σ) H ws' (Own sl σ) H ∧ Env K ws' B0 sl w' σ H ∧ DRs K ws' (Bad ws' B0 sl σ) H vs es ∧ es.length = l.length
  | [], ws, w, w', vs, es, e, r, h => by
    cases r
    cases h
    exact ⟨ws, Le.refl _ _ _, e, .nil, rfl⟩
  | d :: l, ws, w, w', vs, es, e, r, h => by
    cases d <;> try (cases h; done)
    rename_i k
    unfold frzL at h
    split at h
    · rename_i ds q
      split at h
      · rename_i es' w1 q2
        cases h
        cases r with
        | cons r1 r2 =>
          obtain ⟨a, vs0, rfl, p1, p2, p3, p4⟩ := e.objL r1 q
          obtain ⟨l1, e1, d1⟩ := e.frzObj p1 q
          obtain ⟨ws2, l2, e2, d2, d3⟩ := frzL_go l e1 (r2.le l1) q2
          exact ⟨ws2, l1.trans l2, e2, .cons (d1.le l2) d2, by simp [d3]⟩
      · cases h
    · cases h
end
theorem m_frzE {X : Cx} {Wx : WX} {e : Expr} {f : Dn} (h : PEm X Wx e f) : PEm X Wx e (fun sl => fFrz (f sl)) := by
  refine h.mimp fun σ H Q ⟨ws, B0, sl, w, e, h⟩ => ?_
  refine ⟨ws, B0, sl, w, e, (runAt.bind h).mono fun ws1 w1 d H1 l1 e1 h1 v hv => ?_⟩
  unfold frzD at h1
  split at h1
  · rename_i l
    split at h1
    · rename_i es w2 q
      cases hv with
      | lst z n t r =>
        obtain ⟨ws2, l2, e2, d2, d3⟩ := frzL_go l e1 r q
        refine h1 ws2 H1 l2 e2 _ (.lst (by rw [d3]; exact z) (fun y => ?_) t d2)
        rcases l2.bad _ y with y | y
        · exact n y
        · rw [t] at y; cases y
    · exact h1.elim
  · exact h1.elim
/-! ### a call's own objects are forgotten -/
def cutW (n : Nat) (w : W) : W := ⟨w.town, w.objs.take n⟩
def scopeF (m : Mf) : Mf := fun ds w => match m ds w with
  | .ok d w' => if okd 40 d = true then .ok d (cutW w.objs.length w') else .bad
  | .ex c w' => .ex c (cutW w.objs.length w')
  | .bad => .bad
section
variable {K : PySem.W.Frag} {ws ws' : Wa} {B0 : Addr → Prop} {w w' : W} {H H' : Hp}
def cutA (n : Nat) (ws : Wa) : Wa := ⟨ws.town, ws.tabs, ws.ob.take n⟩
theorem has_cut {n : Nat} {a : Addr} (h : (cutA n ws).has a) : ws.has a := by
  rcases h with h | h | h
  · exact .inl h
  · exact .inr (.inl h)
  · exact .inr (.inr (List.mem_of_mem_take h))
theorem get_take {α : Type} {l : List α} {n k : Nat} {x : α} (h : (l.take n)[k]? = some x) : k < n ∧ l[k]? = some x := by
  rw [List.getElem?_take] at h
  split at h
  · exact ⟨by assumption, h⟩
  · cases h
theorem Post.cut {n : Nat} (hn : ws.ob.length ≤ n) (p : Post ws H ws' H') : Post ws H (cutA n ws') H' := by
  refine ⟨⟨p.wle.tw, fun k a b z => ?_⟩, fun a z => p.new a (has_cut z), p.own, p.keep, p.ex⟩
  obtain ⟨b', y⟩ := p.wle.ob k a b z
  have := (List.getElem?_eq_some_iff.mp z).1
  exact ⟨b', by show (ws'.ob.take n)[k]? = _; rw [List.getElem?_take, if_pos (by omega)]; exact y⟩
theorem WR.cut {n : Nat} (h : WR K ws w H) : WR K (cutA n ws) (cutW n w) H := by
  obtain ⟨h1, h2, h3⟩ := h
  refine ⟨h1.same rfl rfl, h2, ?_⟩
  refine ⟨by simp [cutA, cutW, h3.len], fun k o z => ?_, fun k z => ?_, fun j k a z1 z2 => h3.nd j k a (get_take z1).2 (get_take z2).2, fun a z => h3.nt a (List.mem_of_mem_take z)⟩
  · obtain ⟨z1, z2⟩ := get_take z
    obtain ⟨a, y1, y2⟩ := h3.live k o z2
    exact ⟨a, by show (ws.ob.take n)[k]? = _; rw [List.getElem?_take, if_pos z1]; exact y1, y2⟩
  · obtain ⟨z1, z2⟩ := get_take z
    obtain ⟨a, y1⟩ := h3.dead k z2
    exact ⟨a, by show (ws.ob.take n)[k]? = _; rw [List.getElem?_take, if_pos z1]; exact y1⟩
theorem spF_scope {mg : Str → Option Value} {n : Nat} {m : Mf} {vs : List V} {Q : VK} {E : XK} (h : spF K mg n (scopeF m) vs H Q E) : spF K mg n m vs H Q E := by
  obtain ⟨hl, ws, B0, w, ds, hw, hbx, hd, r, h⟩ := h
  refine ⟨hl, ws, B0, w, ds, hw, hbx, hd, r, ?_⟩
  have hn : ws.ob.length = w.objs.length := hw.3.len
  unfold scopeF at h
  cases q : m ds w with
  | bad => rw [q] at h; exact h
  | ex c w' =>
    rw [q] at h
    exact fun ws' H' C hC po hw' => h _ H' C hC (po.cut (n := w.objs.length) (by omega)) hw'.cut
  | ok d w' =>
    rw [q] at h
    simp only at h
    by_cases z : okd 40 d = true
    · rw [if_pos z] at h
      intro v ws' H' po hw' hv
      exact h v _ H' (po.cut (n := w.objs.length) (by omega)) hw'.cut (okd_keep (fun _ _ y _ => y) (fun _ _ y _ => y) (fun a _ y => y.imp has_cut id) 40 v d z hv)
    · rw [if_neg z] at h
      exact h.elim
theorem Cal.scope {P : Program} {w : World} {mg : Str → Option Value} {base : Heap} {k : Nat} {x : Str} {ps : List Str} {m : Mf} (h : Cal P w K mg base k x ps m) : Cal P w K mg base k x ps (scopeF m) := by
  obtain ⟨f, fd, h1, h2, h3, h4⟩ := h
  exact ⟨f, fd, h1, h2, h3, ⟨fun vs H Q E h => h.1, fun A outer s H args us vs Q E hr he hb hv hs => h4.run A outer s H args us vs Q E hr he hb hv (spF_scope hs)⟩⟩
end
end Pm
namespace Pm
open PySem PySem.Spec PyProof.Rows L2

/-! ### plain evaluation -/
def nts (ns : List Int) : List D := ns.map D.int
theorem nts_len (ns : List Int) : (nts ns).length = ns.length := List.length_map ..
theorem sizeIs : sizeLine = 16777216 := by decide
section
variable {α β : Type}
theorem f_bin (op : D → D → Option D) (a b : D) : fBin op (M.pure a) (M.pure b) = M.opt (op a b) := rfl
theorem f_nil : fNil = M.pure [] := rfl
theorem f_cons (a : D) (l : List D) : fCons (M.pure a) (M.pure l) = M.pure (a :: l) := rfl
theorem f_tup (l : List D) : fTup (M.pure l) = M.pure (.tup l) := rfl
theorem f_lst (l : List D) : fLst (M.pure l) = M.pure (.lst l) := rfl
theorem f_call (m : Mf) (l : List D) : fCall m (M.pure l) = m l := rfl
theorem f_cb (fn : List D → Option D) (l : List D) : fCB fn (M.pure l) = M.opt (fn l) := rfl
theorem f_if (b : Bool) (x y : M α) : fIf (M.pure b) x y = if b = true then x else y := rfl
theorem f_ofv (d : D) : fOf (M.pure d) = M.opt (blD d) := rfl
theorem f_of (b : Bool) : fOf (M.pure (.bl b)) = M.pure b := rfl
theorem bl_bl (b : Bool) : blD (.bl b) = some b := rfl
theorem f_tru (d : D) : fTru (M.pure d) = M.opt (truD d) := rfl
theorem f_andB (b : Bool) (g : M Bool) : fAndB (M.pure b) g = if b = true then g else M.pure false := rfl
theorem f_orB (b : Bool) (g : M Bool) : fOrB (M.pure b) g = if b = true then M.pure true else g := rfl
theorem f_notB (b : Bool) : fNotB (M.pure b) = M.pure (!b) := rfl
theorem f_and (b : Bool) (g : M D) : fAnd (M.pure (.bl b)) g = if b = true then g else M.pure (.bl false) := rfl
theorem f_or (b : Bool) (g : M D) : fOr (M.pure (.bl b)) g = if b = true then M.pure (.bl true) else g := rfl
theorem f_not (d : D) : fNot (M.pure d) = (M.opt (truD d)).bind fun b => M.pure (.bl (!b)) := rfl
theorem f_neg (i : Int) : fNeg (M.pure (.int i)) = M.pure (.int (-i)) := rfl
theorem f_chain (o o' : D → D → Option D) (a b : D) (z : M D) : fChain o o' (M.pure a) (M.pure b) z = (M.opt (o a b)).bind fun r => (M.opt (blD r)).bind fun t => if t = true then z.bind fun c => M.opt (o' b c) else M.pure (.bl false) := rfl
theorem f_sl (d : D) (i j : Option Int) : fSl (M.pure d) (M.pure i) (M.pure j) = M.opt (slD d i j) := rfl
theorem f_ono : fONo = M.pure none := rfl
theorem f_oso (i : Int) : fOSo (M.pure (.int i)) = M.pure (some i) := rfl
theorem ls_lst (l : List D) : lstD (.lst l) = some l := rfl
theorem in_int (i : Int) : intD (.int i) = some i := rfl
theorem ng_int (i : Int) : negD (.int i) = some (.int (-i)) := rfl
theorem f_items (d : D) : fItems (M.pure d) = M.opt (itemsD d) := rfl
theorem i_tup (l : List D) : itemsD (.tup l) = some l := rfl
theorem i_lst (l : List D) : itemsD (.lst l) = some l := rfl
theorem f_zip (x y : D) : fZip (M.pure [x, y]) = M.opt (zipD x y) := rfl
theorem z_tup (a b : List D) : zipD (.tup a) (.tup b) = some (zipL a b) := rfl
theorem z_lst (a b : List D) : zipD (.lst a) (.lst b) = some (zipL a b) := rfl
theorem zl_nil (ys : List D) : zipL [] ys = [] := rfl
theorem zl_cons (x y : D) (xs ys : List D) : zipL (x :: xs) (y :: ys) = .tup [x, y] :: zipL xs ys := rfl
theorem f_enum (x : D) : fEnum (M.pure [x]) = M.opt (enumD x) := rfl
theorem en_tup (a : List D) : enumD (.tup a) = some (enumL 0 a) := rfl
theorem en_lst (a : List D) : enumD (.lst a) = some (enumL 0 a) := rfl
theorem en_nil (n : Nat) : enumL n [] = [] := rfl
theorem en_cons (n : Nat) (x : D) (xs : List D) : enumL n (x :: xs) = .tup [.int n, x] :: enumL (n + 1) xs := rfl
theorem f_rng (l : List D) : fRng (M.pure l) = M.opt (rngF l) := rfl
theorem f_lc (l : List D) (f : D → M D) : fLC (M.pure l) f = (fMapM f l).bind fun r => M.pure (.lst r) := rfl
theorem f_lcf (l : List D) (f : D → M (Option D)) : fLCf (M.pure l) f = (fFltM f l).bind fun r => M.pure (.lst r) := rfl
theorem f_lc2 (l : List D) (f : D → M (List D)) : fLC2 (M.pure l) f = (fCatM f l).bind fun r => if r.length ≤ sizeLine then M.pure (.lst r) else M.bad := rfl
theorem f_in (l : List D) (f : D → M D) : fIn (M.pure l) f = fMapM f l := rfl
theorem f_lz (x y : D) : fLz (M.pure [x, y]) = (M.opt (zipD x y)).bind fun l => M.pure (.lst l) := rfl
theorem f_app (l : List D) (a : D) : fApp (.lst l) (M.pure a) = M.opt (appL l a) := rfl
theorem a_app {l : List D} {a : D} (h : l.length < 16777216) : appL l a = some (.lst (l ++ [a])) := if_pos (by rw [sizeIs]; exact h)
theorem f_ext (l : List D) (a : D) : fExt (.lst l) (M.pure a) = M.opt (extL l a) := rfl
theorem a_ext {l m : List D} (h : l.length + m.length ≤ 16777216) : extL l (.lst m) = some (.lst (l ++ m)) := if_pos (by rw [sizeIs]; exact h)
theorem f_seti (l : List D) (k v : D) : fSetI (.lst l) (M.pure k) v = M.opt (setL l k v) := rfl
theorem f_isi (T : String) (d : D) : fIsi T (M.pure d) = (M.opt (isiD T d)).bind fun b => M.pure (.bl b) := rfl
theorem f_u2 (a b : D) (k : D → D → M α) : fU2 (.tup [a, b]) k = k a b := rfl
theorem f_u3 (a b c : D) (k : D → D → D → M α) : fU3 (.tup [a, b, c]) k = k a b c := rfl
theorem f_u4 (a b c d : D) (k : D → D → D → D → M α) : fU4 (.tup [a, b, c, d]) k = k a b c d := rfl
/-! lists, item by item -/
theorem x_nil (f : D → M D) : fMapM f [] = M.pure [] := rfl
theorem x_cons (f : D → M D) (x : D) (xs : List D) : fMapM f (x :: xs) = (noEx (f x)).bind fun a => (fMapM f xs).bind fun r => M.pure (a :: r) := rfl
def mapX (f : α → M D) : List α → M (List D)
  | [] => M.pure []
  | x :: xs => (noEx (f x)).bind fun a => (mapX f xs).bind fun r => M.pure (a :: r)
theorem mx_nil (f : α → M D) : mapX f [] = M.pure [] := rfl
theorem mx_cons (f : α → M D) (x : α) (xs : List α) : mapX f (x :: xs) = (noEx (f x)).bind fun a => (mapX f xs).bind fun r => M.pure (a :: r) := rfl
theorem x_map (f : D → M D) (E : α → D) : ∀ l : List α, fMapM f (l.map E) = mapX (fun x => f (E x)) l
  | [] => rfl
  | x :: l => by rw [List.map_cons, fMapM, mapX, x_map f E l]
theorem x_pure (g : α → D) : ∀ l : List α, mapX (fun x => M.pure (g x)) l = M.pure (l.map g)
  | [] => rfl
  | x :: l => by rw [mapX, x_pure g l]; rfl
theorem mapX_congr {f g : α → M D} : ∀ {l : List α}, (∀ x ∈ l, f x = g x) → mapX f l = mapX g l
  | [], _ => rfl
  | x :: l, h => by rw [mapX, mapX, h x List.mem_cons_self, mapX_congr fun y hy => h y (List.mem_cons_of_mem _ hy)]
/-- a comprehension whose items are plain -/
theorem mapX_of {f : α → M D} {g : α → D} {l : List α} (h : ∀ x ∈ l, f x = M.pure (g x)) : mapX f l = M.pure (l.map g) := by rw [mapX_congr h, x_pure]
theorem map_of {f : D → M D} {E : α → D} {g : α → D} {l : List α} (h : ∀ x ∈ l, f (E x) = M.pure (g x)) : fMapM f (l.map E) = M.pure (l.map g) := by rw [x_map, mapX_of h]
theorem xf_nil (f : D → M (Option D)) : fFltM f [] = M.pure [] := rfl
theorem xf_cons (f : D → M (Option D)) (x : D) (xs : List D) : fFltM f (x :: xs) = (noEx (f x)).bind fun a => (fFltM f xs).bind fun r => M.pure (a.toList ++ r) := rfl
theorem flt_of {f : D → M (Option D)} {E : α → D} {g : α → Option D} : ∀ {l : List α}, (∀ x ∈ l, f (E x) = M.pure (g x)) → fFltM f (l.map E) = M.pure (l.filterMap g)
  | [], _ => rfl
  | x :: l, h => by
    rw [List.map_cons, fFltM, h x List.mem_cons_self, flt_of fun y hy => h y (List.mem_cons_of_mem _ hy)]
    cases q : g x <;> simp [q, List.filterMap_cons]
theorem xc_nil (f : D → M (List D)) : fCatM f [] = M.pure [] := rfl
theorem xc_cons (f : D → M (List D)) (x : D) (xs : List D) : fCatM f (x :: xs) = (noEx (f x)).bind fun a => (fCatM f xs).bind fun r => M.pure (a ++ r) := rfl
theorem cat_of {f : D → M (List D)} {E : α → D} {g : α → List D} : ∀ {l : List α}, (∀ x ∈ l, f (E x) = M.pure (g x)) → fCatM f (l.map E) = M.pure (l.map g).flatten
  | [], _ => rfl
  | x :: l, h => by
    rw [List.map_cons, fCatM, h x List.mem_cons_self, cat_of fun y hy => h y (List.mem_cons_of_mem _ hy)]
    rfl
theorem ls_nil (n : Nat) : List.replicate 0 n = [] := rfl
theorem ls_cons (f : α → β) (a : α) (l : List α) : (a :: l).map f = f a :: l.map f := rfl
theorem for_nil {σ : Type} (b : D → σ → (σ → M α) → M α) (st : σ) (k : σ → M α) : fFor b [] st k = k st := rfl
theorem for_cons {σ : Type} (b : D → σ → (σ → M α) → M α) (x : D) (xs : List D) (st : σ) (k : σ → M α) : fFor b (x :: xs) st k = b x st fun st' => fFor b xs st' k := rfl
end
/-! operations on numbers -/
theorem o_add (i j : Int) : addD (.int i) (.int j) = some (.int (i + j)) := rfl
theorem o_iadd (i j : Int) : iaddD (.int i) (.int j) = some (.int (i + j)) := rfl
theorem o_addT {l m : List D} (h : l.length + m.length ≤ 16777216) : addD (.tup l) (.tup m) = some (.tup (l ++ m)) := if_pos (by rw [sizeIs]; exact h)
theorem o_addL {l m : List D} (h : l.length + m.length ≤ 16777216) : addD (.lst l) (.lst m) = some (.lst (l ++ m)) := if_pos (by rw [sizeIs]; exact h)
theorem ix_tup (l : List D) (i : Int) : ixD (.tup l) (.int i) = atI l i := rfl
theorem ix_lst (l : List D) (i : Int) : ixD (.lst l) (.int i) = atI l i := rfl
theorem ix_scr (l : List Int) (i : Int) : ixD (.scr l) (.int i) = (atI l i).map D.int := rfl
theorem sl_tup (l : List D) (i j : Option Int) : slD (.tup l) i j = some (.tup (cutL l i j)) := rfl
theorem sl_lst (l : List D) (i j : Option Int) : slD (.lst l) i j = some (.lst (cutL l i j)) := rfl
theorem o_sub (i j : Int) : subD (.int i) (.int j) = some (.int (i - j)) := rfl
theorem o_mul {i j : Int} (h : CMul i j) : mulD (.int i) (.int j) = some (.int (i * j)) := if_pos h
theorem o_mulL {i j : Int} (h1 : -18446744073709551616 < i) (h2 : i < 18446744073709551616) : mulD (.int i) (.int j) = some (.int (i * j)) := o_mul (.inl ⟨h1, h2⟩)
theorem o_mulR {i j : Int} (h1 : -18446744073709551616 < j) (h2 : j < 18446744073709551616) : mulD (.int i) (.int j) = some (.int (i * j)) := o_mul (.inr ⟨h1, h2⟩)
theorem o_mulT {l : List D} {k : Int} (h0 : l ≠ []) (h1 : 1 ≤ k) (h2 : k ≤ 10000) (h3 : l.length ≤ 1000) : mulD (.tup l) (.int k) = some (.tup (List.replicate k.toNat l).flatten) := if_pos ⟨h0, h1, h2, h3⟩
theorem o_mulT1 {d : D} {k : Int} (h1 : 1 ≤ k) (h2 : k ≤ 10000) : mulD (.tup [d]) (.int k) = some (.tup (List.replicate k.toNat d)) := by
  rw [o_mulT (by simp) h1 h2 (by simp)]
  congr 2
  induction k.toNat with
  | zero => rfl
  | succ n ih => rw [List.replicate_succ, List.flatten_cons, ih]; rfl
theorem o_div {i j : Int} (h1 : 0 < j) (h2 : j < 1073741824) : fdivD (.int i) (.int j) = some (.int (i / j)) := if_pos (c := CDiv i j) ⟨h1, h2⟩
theorem o_mod {i j : Int} (h : 0 < j) : modD (.int i) (.int j) = some (.int (i % j)) := if_pos h
theorem o_lt (i j : Int) : ltD (.int i) (.int j) = some (.bl (decide (i < j))) := rfl
theorem o_le (i j : Int) : leD (.int i) (.int j) = some (.bl (decide (i ≤ j))) := rfl
theorem o_gt (i j : Int) : gtD (.int i) (.int j) = some (.bl (decide (j < i))) := rfl
theorem o_ge (i j : Int) : geD (.int i) (.int j) = some (.bl (decide (j ≤ i))) := rfl
theorem o_eq (i j : Int) : eqD (.int i) (.int j) = some (.bl (i == j)) := by unfold eqD; rw [if_pos (.inl rfl)]; unfold deq; rfl
theorem o_ne (i j : Int) : neD (.int i) (.int j) = some (.bl (!(i == j))) := by unfold neD; rw [if_pos (.inl rfl)]; unfold deq; rfl
theorem n_ot (b : Bool) : (!(!b)) = b := Bool.not_not b
theorem b_len_t (l : List D) : lenF [.tup l] = some (.int l.length) := rfl
theorem b_len_l (l : List D) : lenF [.lst l] = some (.int l.length) := rfl
theorem b_len_s (l : List Int) : lenF [.scr l] = some (.int l.length) := rfl
theorem b_abs (i : Int) : absF [.int i] = some (.int (if i < 0 then -i else i)) := rfl
theorem b_int_i (i : Int) : intF [.int i] = some (.int i) := rfl
theorem b_int_b (b : Bool) : intF [.bl b] = some (.int (if b then 1 else 0)) := rfl
theorem b_sum (l : List D) : sumF [.lst l] = (intsOf l).map fun ns => .int ns.sum := rfl
theorem b_all (l : List D) : allF [.lst l] = (blsOf l).map fun ns => .bl (ns.all id) := rfl
theorem b_any (l : List D) : anyF [.lst l] = (blsOf l).map fun ns => .bl (ns.any id) := rfl
theorem b_tup_l (l : List D) : tupF [.lst l] = some (.tup l) := rfl
theorem b_tup_t (l : List D) : tupF [.tup l] = some (.tup l) := rfl
theorem b_lst_l (l : List D) : lstF [.lst l] = some (.lst l) := rfl
theorem b_lst_t (l : List D) : lstF [.tup l] = some (.lst l) := rfl
theorem b_max2 (i j : Int) : maxF [.int i, .int j] = some (.int (max i j)) := rfl
theorem b_max3 (i j k : Int) : maxF [.int i, .int j, .int k] = some (.int (max (max i j) k)) := rfl
theorem b_min2 (i j : Int) : minF [.int i, .int j] = some (.int (min i j)) := rfl
theorem b_min3 (i j k : Int) : minF [.int i, .int j, .int k] = some (.int (min (min i j) k)) := rfl
theorem t_bl (b : Bool) : truD (.bl b) = some b := rfl
theorem t_int (i : Int) : truD (.int i) = some (i != 0) := rfl
theorem t_tup (l : List D) : truD (.tup l) = some (!l.isEmpty) := rfl
theorem t_lst (l : List D) : truD (.lst l) = some (!l.isEmpty) := rfl
theorem t_non : truD .non = some false := rfl
theorem isi_int' {d : D} (h : plainD d = true) : isiD "int" d = some (isiInt d) := isi_int h
theorem isi_bool' {d : D} (h : plainD d = true) : isiD "bool" d = some (isiBool d) := isi_bool h
theorem isi_tup' {d : D} (h : plainD d = true) : isiD "tuple" d = some (isiTup d) := isi_tup h
theorem isi_str' {d : D} (h : plainD d = true) : isiD "str" d = some (isiStr d) := isi_str h
theorem dn_non : isND .non .non = some (.bl true) := rfl
theorem dn_int (i : Int) : isND (.int i) .non = some (.bl false) := rfl
theorem dn_bl (i : Bool) : isND (.bl i) .non = some (.bl false) := rfl
theorem dn_str (i : Str) : isND (.str i) .non = some (.bl false) := rfl
theorem dn_tup (i : List D) : isND (.tup i) .non = some (.bl false) := rfl
theorem dnn_non : isNND .non .non = some (.bl false) := rfl
theorem dnn_int (i : Int) : isNND (.int i) .non = some (.bl true) := rfl
theorem dnn_bl (i : Bool) : isNND (.bl i) .non = some (.bl true) := rfl
theorem dnn_str (i : Str) : isNND (.str i) .non = some (.bl true) := rfl
theorem dnn_tup (i : List D) : isNND (.tup i) .non = some (.bl true) := rfl
/-! indices, slices -/
theorem atI_of {α : Type} {xs : List α} {i : Int} {n : Nat} {x : α} (hi : i = n) (h : xs[n]? = some x) : atI xs i = some x := by subst hi; exact atI_nat h
theorem at0 (x : D) (l : List D) : atI (x :: l) 0 = some x := atI_of (n := 0) rfl rfl
theorem at1 (x y : D) (l : List D) : atI (x :: y :: l) 1 = some y := atI_of (n := 1) rfl rfl
theorem at2 (x y z : D) (l : List D) : atI (x :: y :: z :: l) 2 = some z := atI_of (n := 2) rfl rfl
theorem at3 (x y z u : D) (l : List D) : atI (x :: y :: z :: u :: l) 3 = some u := atI_of (n := 3) rfl rfl
theorem at4 (x y z u v : D) (l : List D) : atI (x :: y :: z :: u :: v :: l) 4 = some v := atI_of (n := 4) rfl rfl
theorem atI_mem {α : Type} {xs : List α} {i : Int} (h0 : 0 ≤ i) (h1 : i < xs.length) : ∃ x ∈ xs, atI xs i = some x := by
  have hk : i.toNat < xs.length := by omega
  exact ⟨xs[i.toNat], List.getElem_mem hk, atI_of (Int.toNat_of_nonneg h0).symm (List.getElem?_eq_getElem hk)⟩
theorem at_map {α : Type} {E : α → D} {xs : List α} {i : Int} {n : Nat} {x : α} (hi : i = n) (h : xs[n]? = some x) : atI (xs.map E) i = some (E x) := atI_of hi (by rw [List.getElem?_map, h]; rfl)
theorem cut_hi {α : Type} (xs : List α) (n : Nat) : cutL xs none (some (n : Int)) = xs.take n := by
  unfold cutL
  rw [HT.sIx_none, HT.sIx_nat, Nat.sub_zero]
  simp only [List.drop_zero]
  rw [List.take_eq_take_iff]; omega
theorem cut_lo {α : Type} (xs : List α) (n : Nat) : cutL xs (some (n : Int)) none = xs.drop n := by
  unfold cutL
  rw [HT.sIx_none, HT.sIx_nat]
  by_cases h : n ≤ xs.length
  · rw [Nat.min_eq_left h, List.take_of_length_le (by simp)]
  · rw [Nat.min_eq_right (by omega), List.drop_of_length_le (Nat.le_refl _), List.drop_of_length_le (by omega)]; simp
theorem cut_mid {α : Type} (xs : List α) (m n : Nat) : cutL xs (some (m : Int)) (some (n : Int)) = (xs.drop m).take (n - m) := by
  unfold cutL
  rw [HT.sIx_nat, HT.sIx_nat]
  by_cases h : m ≤ xs.length
  · rw [Nat.min_eq_left h, List.take_eq_take_iff, List.length_drop]; omega
  · have e : min m xs.length = xs.length := by omega
    rw [e, List.drop_of_length_le (Nat.le_refl _), List.drop_of_length_le (by omega)]; simp
theorem cut_map {α : Type} (E : α → D) (xs : List α) (i j : Option Int) : cutL (xs.map E) i j = (cutL xs i j).map E := by
  unfold cutL
  rw [List.length_map, List.map_take, List.map_drop]
theorem rng_A {j : Int} (h0 : 0 ≤ j) (h1 : j ≤ 16777216) : rngF [.int j] = some ((List.range j.toNat).map fun (k : Nat) => .int k) := if_pos ⟨by rw [sizeIs]; omega, by omega⟩
theorem rng_B {i j : Int} (h0 : -4611686018427387904 ≤ i) (h1 : i ≤ j) (h2 : j < 4611686018427387904) (h3 : j - i ≤ 16777216) : rngF [.int i, .int j] = some ((List.range (j - i).toNat).map fun (k : Nat) => .int (i + k)) := if_pos ⟨by rw [sizeIs]; omega, by omega, by omega, by omega, by omega⟩
/-! sums -/
theorem ints_of {α : Type} (f : α → Int) (l : List α) : intsOf (l.map fun x => .int (f x)) = some (l.map f) := by
  have e : (l.map fun x => D.int (f x)) = (l.map f).map D.int := by rw [List.map_map]; rfl
  rw [e, intsOf_map]
theorem bls_of {α : Type} (f : α → Bool) (l : List α) : blsOf (l.map fun x => .bl (f x)) = some (l.map f) := by
  have e : (l.map fun x => D.bl (f x)) = (l.map f).map D.bl := by rw [List.map_map]; rfl
  rw [e, blsOf_map]
theorem sum_bd {α : Type} {f : α → Int} {l : List α} {b : Int} (h : ∀ x ∈ l, 0 ≤ f x ∧ f x ≤ b) : 0 ≤ (l.map f).sum ∧ (l.map f).sum ≤ b * l.length := by
  induction l with
  | nil => simp
  | cons x l ih =>
    have h1 := h x List.mem_cons_self
    have h2 := ih fun y hy => h y (List.mem_cons_of_mem _ hy)
    simp only [List.map_cons, List.sum_cons, List.length_cons]
    have e : b * ((l.length + 1 : Nat) : Int) = b * l.length + b := by rw [Int.natCast_add, Int.mul_add]; simp
    omega
/-! equality of data -/
theorem o_neT {x y : D} (h : okd 40 x = true) (h' : okd 40 y = true) : neD x y = some (.bl (!deq x y)) := by unfold neD; rw [if_pos (.inr ⟨h, h'⟩)]
theorem o_eqT {x y : D} (h : okd 40 x = true) (h' : okd 40 y = true) : eqD x y = some (.bl (deq x y)) := by unfold eqD; rw [if_pos (.inr ⟨h, h'⟩)]
theorem okd_int (n : Nat) (i : Int) : okd n (.int i) = true := by unfold okd; rfl
theorem okd_tup (n : Nat) (l : List D) : okd (n + 1) (.tup l) = l.all (okd n) := by rw [okd]
theorem okd_lst (n : Nat) (l : List D) : okd (n + 1) (.lst l) = l.all (okd n) := by rw [okd]
mutual
theorem deq_self : ∀ d : D, ∀ n, okd n d = true → deq d d = true
  | .non, n, h => by unfold deq; rfl
  | .bl _, n, h => by unfold deq; simp
  | .int _, n, h => by unfold deq; simp
  | .str _, n, h => by unfold deq; simp
  | .tup l, 0, h => by simp [okd] at h
  | .tup l, n + 1, h => by unfold deq; rw [okd] at h; exact deqs_self l n h
  | .lst l, 0, h => by simp [okd] at h
  | .lst l, n + 1, h => by unfold deq; rw [okd] at h; exact deqs_self l n h
  | .scr _, n, h => by cases n <;> simp [okd] at h
  | .dk _, n, h => by cases n <;> simp [okd] at h
  | .dt _, n, h => by cases n <;> simp [okd] at h
  | .town, n, h => by cases n <;> simp [okd] at h
  | .fn _ _ _, n, h => by cases n <;> simp [okd] at h
  | .obj _, n, h => by cases n <;> simp [okd] at h
theorem deqs_self : ∀ (l : List D) (n : Nat), l.all (okd n) = true → deqs l l = true
  | [], _, _ => by unfold deqs; rfl
  | d :: l, n, h => by
    simp only [List.all_cons, Bool.and_eq_true] at h
    unfold deqs
    rw [deq_self d n h.1, deqs_self l n h.2]; rfl
end
/-- unlike itself? no -/
theorem o_ne_self {x : D} (h : okd 40 x = true) : neD x x = some (.bl false) := by rw [o_neT h h, deq_self x 40 h]; rfl
theorem o_eq_self {x : D} (h : okd 40 x = true) : eqD x x = some (.bl true) := by rw [o_eqT h h, deq_self x 40 h]

/-! ### draws -/
/-- m draws at most k times, and what it tells is so -/
def Dr {α : Type} (k : Nat) (m : M α) (P : α → Prop) : Prop := ∀ (t : List Int) (o : List (Option Ob)), t.length + k ≤ 900000 → ∃ a t' n, m ⟨some t, o⟩ = .ok a ⟨some t', o ++ List.replicate n none⟩ ∧ P a ∧ t'.length ≤ t.length + k
section
variable {α β : Type}
theorem Dr.of0 {k : Nat} {m : M α} {P : α → Prop} (h : ∀ (t : List Int) (o : List (Option Ob)), t.length + k ≤ 900000 → ∃ a t', m ⟨some t, o⟩ = .ok a ⟨some t', o⟩ ∧ P a ∧ t'.length ≤ t.length + k) : Dr k m P := fun t o ht => by
  obtain ⟨a, t', h1, h2, h3⟩ := h t o ht
  exact ⟨a, t', 0, by rw [h1]; simp, h2, h3⟩
theorem Dr.pure {k : Nat} {a : α} {P : α → Prop} (h : P a) : Dr k (M.pure a) P := .of0 fun t o _ => ⟨a, t, rfl, h, by omega⟩
theorem Dr.bind {k j : Nat} {m : M α} {f : α → M β} {P : α → Prop} {Q : β → Prop} (h : Dr k m P) (hf : ∀ a, P a → Dr j (f a) Q) : Dr (k + j) (m.bind f) Q := fun t o ht => by
  obtain ⟨a, t1, n1, h1, h2, h3⟩ := h t o (by omega)
  obtain ⟨b, t2, n2, h4, h5, h6⟩ := hf a h2 t1 _ (by omega)
  refine ⟨b, t2, n1 + n2, ?_, h5, by omega⟩
  unfold M.bind
  rw [h1]
  show f a _ = _
  rw [h4, List.append_assoc, List.replicate_append_replicate]
theorem Dr.more {k j : Nat} {m : M α} {P : α → Prop} (h : Dr k m P) (l : k ≤ j) : Dr j m P := fun t o ht => by
  obtain ⟨a, t1, n1, h1, h2, h3⟩ := h t o (by omega)
  exact ⟨a, t1, n1, h1, h2, by omega⟩
theorem Dr.imp {k : Nat} {m : M α} {P Q : α → Prop} (h : Dr k m P) (f : ∀ a, P a → Q a) : Dr k m Q := fun t o ht => by
  obtain ⟨a, t1, n1, h1, h2, h3⟩ := h t o ht
  exact ⟨a, t1, n1, h1, f a h2, h3⟩
/-- first so many draws, then the rest of them -/
theorem Dr.then {K : Nat} {m : M α} {f : α → M β} {P : α → Prop} {Q : β → Prop} (k : Nat) (h : Dr k m P) (l : k ≤ K) (hf : ∀ a, P a → Dr (K - k) (f a) Q) : Dr K (m.bind f) Q := (Dr.bind h hf).more (by omega)
theorem Dr.ite {k : Nat} {c : Prop} [Decidable c] {x y : M α} {P : α → Prop} (h1 : c → Dr k x P) (h2 : ¬ c → Dr k y P) : Dr k (if c then x else y) P := by
  by_cases h : c
  · rw [if_pos h]; exact h1 h
  · rw [if_neg h]; exact h2 h
theorem Dr.noEx {k : Nat} {m : M α} {P : α → Prop} (h : Dr k m P) : Dr k (Pm.noEx m) P := fun t o ht => by
  obtain ⟨a, t1, n1, h1, h2⟩ := h t o ht
  exact ⟨a, t1, n1, by unfold Pm.noEx; rw [h1], h2⟩
theorem dr_for {σ : Type} {body : D → σ → (σ → M α) → M α} {P : α → Prop} (I : σ → Prop) (n j : Nat) (k : σ → M α) : ∀ (xs : List D), (∀ x ∈ xs, ∀ st i (k' : σ → M α), I st → (∀ st', I st' → Dr i (k' st') P) → Dr (n + i) (body x st k') P) → ∀ st, I st → (∀ st', I st' → Dr j (k st') P) → Dr (n * xs.length + j) (fFor body xs st k) P
  | [], _, st, h0, hk => by rw [List.length_nil, Nat.mul_zero, Nat.zero_add]; exact hk st h0
  | x :: xs, hb, st, h0, hk => by
    have e : n * (x :: xs).length + j = n + (n * xs.length + j) := by rw [List.length_cons, Nat.mul_succ]; omega
    rw [e]
    exact hb x List.mem_cons_self st _ _ h0 fun st' h' => dr_for I n j k xs (fun y hy => hb y (List.mem_cons_of_mem _ hy)) st' h' hk
theorem dr_map {f : D → M D} {P : D → Prop} (n : Nat) : ∀ (xs : List D), (∀ x ∈ xs, Dr n (f x) P) → Dr (n * xs.length) (fMapM f xs) (fun l => l.length = xs.length ∧ ∀ y ∈ l, P y)
  | [], _ => Dr.pure ⟨rfl, fun y h => nomatch h⟩
  | x :: xs, h => by
    have e : n * (x :: xs).length = n + (n * xs.length + 0) := by rw [List.length_cons, Nat.mul_succ]; omega
    rw [e]
    refine Dr.bind (h x List.mem_cons_self).noEx fun a ha => Dr.bind (dr_map n xs fun y hy => h y (List.mem_cons_of_mem _ hy)) fun l ⟨h1, h2⟩ => Dr.pure ⟨by simp [h1], fun y hy => ?_⟩
    rcases List.mem_cons.mp hy with rfl | hy
    · exact ha
    · exact h2 y hy
end
end Pm
noncomputable section
namespace Pm
open PySem PySem.Spec PyProof.Rows L2
def j1__law_draw (_law_script_ : D) (_law_town_ : D) (_law_many_ : D) : M D :=
  (M.bind (twTru _law_town_) fun _ => M.bind (M.pure (D.int 0)) fun a2_ => M.bind (twApp _law_town_ a2_) fun _ =>
  (M.bind ((M.pure _law_town_).bind twLen) fun _law_k_ =>
  (M.bind (fIf (fTru (M.pure _law_script_)) (fBin ixD (M.pure _law_script_) (fBin modD (M.pure _law_k_) (fCB lenF (fCons (M.pure _law_script_) fNil)))) (M.pure (D.int 0))) fun _law_cell_ =>
  (M.bind (fBin modD ((M.pure _law_town_).bind twAt0) (M.pure (D.int 65536))) fun _law_digits_ =>
  (M.bind (fBin fdivD ((M.pure _law_town_).bind twAt0) (M.pure (D.int 65536))) fun a3_ => M.bind (twSet0 _law_town_ a3_) fun _ =>
  (M.bind (fBin modD (fBin addD (fBin addD (M.pure _law_cell_) (fBin mulD (M.pure (D.int 40503)) (M.pure _law_digits_))) (fBin mulD (M.pure (D.int 104729)) (M.pure _law_k_))) (M.pure (D.int 4294967291))) fun _law_number_ =>
  (M.bind (fBin modD (fBin mulD (fBin modD (fBin mulD (M.pure _law_number_) (M.pure _law_number_)) (M.pure (D.int 4294967279))) (M.pure (D.int 48271))) (M.pure (D.int 4294967291))) fun _law_number_ =>
  (M.bind (fBin modD (fBin mulD (fBin modD (fBin mulD (M.pure _law_number_) (M.pure _law_number_)) (M.pure (D.int 4294967279))) (M.pure (D.int 69621))) (M.pure (D.int 4294967291))) fun _law_more_ =>
  (fBin modD (fBin addD (fBin mulD (fBin fdivD (M.pure _law_number_) (M.pure (D.int 64))) (M.pure (D.int 67108864))) (fBin fdivD (M.pure _law_more_) (M.pure (D.int 64)))) (M.pure _law_many_))))))))))
def p__law_draw (_law_script_ : D) (_law_town_ : D) (_law_many_ : D) : M D :=
  (fIf (fNotB ((M.pure _law_town_).bind twTru))
  (M.bind (twTru _law_town_) fun _ => M.bind (fCB maxF (fCons (fBin addD (fLC (fItems (M.pure _law_script_)) fun _law_cell_ => (fCB absF (fCons (M.pure _law_cell_) fNil))) (fLst (fCons (M.pure (D.int 0)) fNil))) fNil)) fun a1_ => M.bind (twApp _law_town_ a1_) fun _ =>
  (j1__law_draw _law_script_ _law_town_ _law_many_))
  (j1__law_draw _law_script_ _law_town_ _law_many_))
def m__law_draw : Mf := fun ds => match ds with
  | [_law_script_, _law_town_, _law_many_] => p__law_draw _law_script_ _law_town_ _law_many_
  | _ => M.bad
def p__law_pick (_law_script_ : D) (_law_town_ : D) (_law_some_ : D) : M D :=
  (fBin ixD (M.pure _law_some_) (fCall m__law_draw (fCons (M.pure _law_script_) (fCons (M.pure _law_town_) (fCons (fCB lenF (fCons (M.pure _law_some_) fNil)) fNil)))))
def m__law_pick : Mf := fun ds => match ds with
  | [_law_script_, _law_town_, _law_some_] => p__law_pick _law_script_ _law_town_ _law_some_
  | _ => M.bad
def p__law_drawn_colour (_law_script_ : D) (_law_town_ : D) : M D :=
  (M.bind (fLst (fCons (M.pure (D.int 0)) (fCons (M.pure (D.int 255)) (fCons (fCall m__law_draw (fCons (M.pure _law_script_) (fCons (M.pure _law_town_) (fCons (M.pure (D.int 256)) fNil)))) (fCons (fCall m__law_draw (fCons (M.pure _law_script_) (fCons (M.pure _law_town_) (fCons (M.pure (D.int 256)) fNil)))) fNil))))) fun _law_some_ =>
  (M.bind (fLC (fRng (fCons (M.pure (D.int 3)) fNil)) fun _law_k_ => (fCall m__law_pick (fCons (M.pure _law_script_) (fCons (M.pure _law_town_) (fCons (M.pure _law_some_) fNil))))) fun _law_parts_ =>
  (fTup (fCons (fBin ixD (M.pure _law_parts_) (M.pure (D.int 0))) (fCons (fBin ixD (M.pure _law_parts_) (M.pure (D.int 1))) (fCons (fBin ixD (M.pure _law_parts_) (M.pure (D.int 2))) (fCons (fCall m__law_pick (fCons (M.pure _law_script_) (fCons (M.pure _law_town_) (fCons (fLst (fCons (M.pure (D.int 255)) (fCons (M.pure (D.int 255)) (fCons (M.pure (D.int 0)) (fCons (fCall m__law_draw (fCons (M.pure _law_script_) (fCons (M.pure _law_town_) (fCons (M.pure (D.int 256)) fNil)))) fNil))))) fNil)))) fNil)))))))
def m__law_drawn_colour : Mf := fun ds => match ds with
  | [_law_script_, _law_town_] => p__law_drawn_colour _law_script_ _law_town_
  | _ => M.bad
def p_rounded (one_ : D) (by_ : D) : M D :=
  (fBin fdivD (fBin addD (fBin mulD (M.pure (D.int 2)) (M.pure one_)) (M.pure by_)) (fBin mulD (M.pure (D.int 2)) (M.pure by_)))
def m_rounded : Mf := fun ds => match ds with
  | [one_, by_] => p_rounded one_ by_
  | _ => M.bad
def p_grey (colour_ : D) : M D :=
  (M.bind (M.pure colour_) fun it1_ => (fU4 it1_ fun red_ green_ blue_ cover_ => 
  (M.bind (fCall m_rounded (fCons (fBin addD (fBin addD (fBin mulD (M.pure (D.int 299)) (M.pure red_)) (fBin mulD (M.pure (D.int 587)) (M.pure green_))) (fBin mulD (M.pure (D.int 114)) (M.pure blue_))) (fCons (M.pure (D.int 1000)) fNil))) fun part_ =>
  (fTup (fCons (M.pure part_) (fCons (M.pure part_) (fCons (M.pure part_) (fCons (M.pure cover_) fNil))))))))
def m_grey : Mf := fun ds => match ds with
  | [colour_] => p_grey colour_
  | _ => M.bad
def p_shared (one_ : D) (other_ : D) (share_ : D) : M D :=
  (M.bind (fLz (fCons (M.pure one_) (fCons (M.pure other_) fNil))) fun pairs_ =>
  (fCB tupF (fCons (fLC (fItems (M.pure pairs_)) fun it1_ => (fU2 it1_ fun left_ right_ => (fCall m_rounded (fCons (fBin addD (fBin mulD (M.pure left_) (fBin subD (M.pure (D.int 255)) (M.pure share_))) (fBin mulD (M.pure right_) (M.pure share_))) (fCons (M.pure (D.int 255)) fNil))))) fNil)))
def m_shared : Mf := fun ds => match ds with
  | [one_, other_, share_] => p_shared one_ other_ share_
  | _ => M.bad
def p_faded (colour_ : D) (share_ : D) : M D :=
  (fBin addD (fSl (M.pure colour_) fONo (fOSo (M.pure (D.int 3)))) (fTup (fCons (fCall m_rounded (fCons (fBin mulD (fBin ixD (M.pure colour_) (M.pure (D.int 3))) (M.pure share_)) (fCons (M.pure (D.int 255)) fNil))) fNil)))
def m_faded : Mf := fun ds => match ds with
  | [colour_, share_] => p_faded colour_ share_
  | _ => M.bad
def p_distance (one_ : D) (other_ : D) : M D :=
  (fCB sumF (fCons (fLC (fZip (fCons (M.pure one_) (fCons (M.pure other_) fNil))) fun it1_ => (fU2 it1_ fun left_ right_ => (fBin mulD (fBin subD (M.pure left_) (M.pure right_)) (fBin subD (M.pure left_) (M.pure right_))))) fNil))
def m_distance : Mf := fun ds => match ds with
  | [one_, other_] => p_distance one_ other_
  | _ => M.bad
def p_laid_over (top_ : D) (bottom_ : D) : M D :=
  (M.bind (fTup (fCons (fBin mulD (M.pure (D.int 255)) (fBin ixD (M.pure top_) (M.pure (D.int 3)))) (fCons (fBin mulD (fBin ixD (M.pure bottom_) (M.pure (D.int 3))) (fBin subD (M.pure (D.int 255)) (fBin ixD (M.pure top_) (M.pure (D.int 3))))) fNil))) fun it1_ => (fU2 it1_ fun high_ low_ => 
  (M.bind (fBin addD (M.pure high_) (M.pure low_)) fun whole_ =>
  (fIf (fOf (fBin eqD (M.pure whole_) (M.pure (D.int 0))))
  (M.pure ((.tup [(.int 0), (.int 0), (.int 0), (.int 0)]) : D))
  (M.bind (fLC (fZip (fCons (fSl (M.pure top_) fONo (fOSo (M.pure (D.int 3)))) (fCons (fSl (M.pure bottom_) fONo (fOSo (M.pure (D.int 3)))) fNil))) fun it2_ => (fU2 it2_ fun left_ right_ => (fCall m_rounded (fCons (fBin addD (fBin mulD (M.pure high_) (M.pure left_)) (fBin mulD (M.pure low_) (M.pure right_))) (fCons (M.pure whole_) fNil))))) fun parts_ =>
  (fTup (fCons (fBin ixD (M.pure parts_) (M.pure (D.int 0))) (fCons (fBin ixD (M.pure parts_) (M.pure (D.int 1))) (fCons (fBin ixD (M.pure parts_) (M.pure (D.int 2))) (fCons (fCall m_rounded (fCons (M.pure whole_) (fCons (M.pure (D.int 255)) fNil))) fNil))))))))))
def m_laid_over : Mf := fun ds => match ds with
  | [top_, bottom_] => p_laid_over top_ bottom_
  | _ => M.bad
/-! ### a draw -/
theorem maxE (ns : List Int) : maxF [.lst (ns.map (fun n => D.int (if n < 0 then -n else n)) ++ [.int 0])] = some (.int ((ns.map (fun n => if n < 0 then -n else n) ++ [0]).tail.foldl max ((ns.map (fun n => if n < 0 then -n else n) ++ [0]).headD 0))) := by
  have e : ns.map (fun n => D.int (if n < 0 then -n else n)) ++ [.int 0] = (ns.map (fun n => if n < 0 then -n else n) ++ [0]).map D.int := by simp
  rw [e]
  unfold maxF bigF
  simp only [intsOf_map]
  cases ns <;> rfl
theorem draw_tail (o : List (Option Ob)) (ns t : List Int) (many : Int) (hm : 0 < many) (x0 : Int) (hl : t.length < 1000000) (hx : t[0]? = some x0) : ∃ r t', j1__law_draw (.scr ns) .town (.int many) ⟨some t, o⟩ = .ok (.int r) ⟨some t', o⟩ ∧ 0 ≤ r ∧ r < many ∧ t'.length = t.length + 1 := by
  obtain ⟨y, t, rfl⟩ : ∃ y t', t = y :: t' := by cases t with | nil => cases hx | cons y t => exact ⟨y, t, rfl⟩
  have c : ∃ c, ∀ k : Int, k = ((y :: t) ++ [0]).length → (fIf (fTru (M.pure (.scr ns))) (fBin ixD (M.pure (.scr ns)) (fBin modD (M.pure (.int k)) (fCB lenF (fCons (M.pure (.scr ns)) fNil)))) (M.pure (.int 0))) = M.pure (.int c) := by
    cases ns with
    | nil => exact ⟨0, fun _ _ => rfl⟩
    | cons n r =>
      have hp : (0 : Int) < ((n :: r).length : Nat) := by simp only [List.length_cons]; omega
      have b1 := Int.emod_nonneg (((y :: t) ++ [0]).length : Int) (Int.ne_of_gt hp)
      have b2 := Int.emod_lt_of_pos (((y :: t) ++ [0]).length : Int) hp
      have hk : ((((y :: t) ++ [0]).length : Int) % ((n :: r).length : Nat)).toNat < (n :: r).length := by omega
      refine ⟨(n :: r)[((((y :: t) ++ [0]).length : Int) % ((n :: r).length : Nat)).toNat], fun k e => ?_⟩
      subst e
      have q : atI (n :: r) (((((y :: t) ++ [0]).length : Nat) : Int) % ((n :: r).length : Nat)) = some _ := atI_of (Int.toNat_of_nonneg b1).symm (List.getElem?_eq_getElem hk)
      rw [f_tru, f_nil, f_cons, f_cb, b_len_s, opt_some, f_bin, o_mod hp, opt_some, f_bin, ix_scr, q]
      rfl
  obtain ⟨c, hc⟩ := c
  have hz : (y :: t).length < sizeLine := by rw [sizeIs]; omega
  have hd : 0 < many := hm
  unfold j1__law_draw
  have s1 : twTru .town ⟨some (y :: t), o⟩ = .ok true ⟨some (y :: t), o⟩ := rfl
  have s2 : twApp .town (.int 0) ⟨some (y :: t), o⟩ = .ok .non ⟨some ((y :: t) ++ [0]), o⟩ := by unfold twApp; simp only; rw [if_pos hz]
  have s3 : twLen .town ⟨some ((y :: t) ++ [0]), o⟩ = .ok (.int ((y :: t) ++ [0]).length) ⟨some ((y :: t) ++ [0]), o⟩ := rfl
  have s4 : twAt0 .town ⟨some ((y :: t) ++ [0]), o⟩ = .ok (.int y) ⟨some ((y :: t) ++ [0]), o⟩ := rfl
  have s5 : ∀ v, twSet0 .town (.int v) ⟨some ((y :: t) ++ [0]), o⟩ = .ok .non ⟨some (v :: (t ++ [0])), o⟩ := fun v => rfl
  have ev : ∀ {α β : Type} (m : M α) (f : α → M β) (w w' : W) (a : α), m w = .ok a w' → M.bind m f w = f a w' := fun m f w w' a h => by unfold M.bind; rw [h]
  have t4 : fBin modD ((M.pure D.town).bind twAt0) (M.pure (.int 65536)) ⟨some ((y :: t) ++ [0]), o⟩ = .ok (.int (y % 65536)) ⟨some ((y :: t) ++ [0]), o⟩ := by
    unfold fBin; rw [pure_bind, ev _ _ _ _ _ s4, pure_bind, o_mod (by decide)]; rfl
  have t5 : fBin fdivD ((M.pure D.town).bind twAt0) (M.pure (.int 65536)) ⟨some ((y :: t) ++ [0]), o⟩ = .ok (.int (y / 65536)) ⟨some ((y :: t) ++ [0]), o⟩ := by
    unfold fBin; rw [pure_bind, ev _ _ _ _ _ s4, pure_bind, o_div (by decide) (by decide)]; rfl
  rw [ev _ _ _ _ _ s1, pure_bind, ev _ _ _ _ _ s2, pure_bind, ev _ _ _ _ _ s3, hc _ rfl, pure_bind, ev _ _ _ _ _ t4, ev _ _ _ _ _ t5, ev _ _ _ _ _ (s5 _)]
  simp (config := { maxSteps := 3000000 }) (disch := first | omega | (simp only [List.length_map, List.length_cons, List.length_nil, List.length_append, List.length_replicate, List.length_set, List.length_range, nts_len, List.length_take, List.length_drop]; omega) | kernel_rfl) only [in_int, ng_int, mx_nil, mx_cons, o_ne_self, o_eq_self, ls_lst, Pm.pure_bind, bad_bind, raise_bind, opt_some, opt_none, Pm.bind_assoc, Pm.bind_pure, f_bin, f_nil, f_cons, f_tup, f_lst, f_call, f_cb, f_if, f_of, f_ofv, f_tru, f_andB, f_orB, f_notB, f_and, f_or, f_not, f_neg, f_chain, f_sl, f_ono, f_oso, f_items, f_zip, f_enum, f_rng, f_lc, f_lcf, f_lc2, f_in, f_lz, f_app, f_ext, f_seti, f_isi, f_u2, f_u3, f_u4, i_tup, i_lst, z_tup, z_lst, zl_nil, zl_cons, en_tup, en_lst, en_nil, en_cons, x_nil, x_cons, x_map, x_pure, xf_nil, xf_cons, xc_nil, xc_cons, noEx_pure, o_add, o_sub, o_lt, o_le, o_gt, o_ge, o_eq, o_ne, o_mulL, o_mulR, o_div, o_mod, o_addT, o_addL, o_iadd, Pm.ix_tup, ix_lst, Pm.sl_tup, sl_lst, b_len_t, b_len_l, b_abs, b_int_i, b_int_b, b_sum, b_all, b_any, b_tup_l, b_tup_t, b_lst_l, b_lst_t, b_max2, b_max3, b_min2, b_min3, t_bl, t_int, t_tup, t_lst, t_non, a_app, a_ext, bl_bl, decide_true, decide_false, Bool.not_true, Bool.not_false, if_true, if_false, Bool.false_eq_true, for_nil, for_cons, ls_cons, ls_nil, at0, at1, at2, at3, at4, List.cons_append, List.nil_append, List.length_cons, List.length_nil, List.length_map, n_ot, isi_int', isi_bool', isi_tup', isi_str', dn_non, dn_int, dn_tup, dn_str, dn_bl, dnn_non, dnn_int, dnn_tup, dnn_str, dnn_bl, decide_eq_true_eq, fBin, fCons, fTup, fLst, fCall, fCB, fIf, fOf, fTru, fAndB, fOrB, fNotB, fAnd, fOr, fNot, fNeg, fChain, fSl, fOSo, fItems, fZip, fEnum, fRng, fLC, fLCf, fLC2, fIn, fLz, fApp, fExt, fSetI, fIsi]
  refine ⟨_, _, rfl, Int.emod_nonneg _ (by omega), Int.emod_lt_of_pos _ hm, by simp⟩
theorem scr_abs (ns : List Int) (hn : ns.length ≤ 63) : fLC (fItems (M.pure (.scr ns))) (fun _law_cell_ => (fCB absF (fCons (M.pure _law_cell_) fNil))) = M.pure (.lst (ns.map fun n => .int (if n < 0 then -n else n))) := by
  have e : itemsD (.scr ns) = some (ns.map D.int) := if_pos (by rw [sizeIs]; omega)
  rw [f_items, e, opt_some, f_lc, map_of (f := fun _law_cell_ => fCB absF (fCons (M.pure _law_cell_) fNil)) (E := D.int) (g := fun n => .int (if n < 0 then -n else n)) (l := ns) (fun x _ => rfl)]
  rfl
/-- a draw: a number below many -/
theorem dr_draw {ns : List Int} {many : Int} (hn : ns.length ≤ 63) (hm : 0 < many) : Dr 2 (m__law_draw [.scr ns, .town, .int many]) (fun d => ∃ r, d = .int r ∧ 0 ≤ r ∧ r < many) := .of0 fun t o ht => by
  have ev : ∀ {α β : Type} (m : M α) (f : α → M β) (w w' : W) (a : α), m w = .ok a w' → M.bind m f w = f a w' := fun m f w w' a h => by unfold M.bind; rw [h]
  show ∃ a t', p__law_draw (.scr ns) .town (.int many) ⟨some t, o⟩ = .ok a ⟨some t', o⟩ ∧ _
  unfold p__law_draw
  cases t with
  | cons x t =>
    obtain ⟨r, t', h1, h2, h3, h4⟩ := draw_tail o ns (x :: t) many hm x (by simp at ht ⊢; omega) rfl
    refine ⟨.int r, t', ?_, ⟨r, rfl, h2, h3⟩, by omega⟩
    have s1 : fNotB ((M.pure D.town).bind twTru) ⟨some (x :: t), o⟩ = .ok false ⟨some (x :: t), o⟩ := rfl
    unfold fIf
    rw [ev _ _ _ _ _ s1]
    exact h1
  | nil =>
    have s1 : fNotB ((M.pure D.town).bind twTru) ⟨some [], o⟩ = .ok true ⟨some [], o⟩ := rfl
    have s2 : twTru .town ⟨some [], o⟩ = .ok false ⟨some [], o⟩ := rfl
    unfold fIf
    rw [ev _ _ _ _ _ s1, if_pos rfl, ev _ _ _ _ _ s2, scr_abs ns hn]
    have e : fBin addD (M.pure (.lst (ns.map fun n => .int (if n < 0 then -n else n)))) (fLst (fCons (M.pure (.int 0)) fNil)) = M.pure (.lst ((ns.map fun n => .int (if n < 0 then -n else n)) ++ [.int 0])) := by
      rw [f_nil, f_cons, f_lst, f_bin, o_addL (by simp; omega)]; rfl
    rw [e, f_nil, f_cons, f_cb, maxE, opt_some, pure_bind]
    obtain ⟨r, t', h1, h2, h3, h4⟩ := draw_tail o ns [(ns.map (fun n => if n < 0 then -n else n) ++ [0]).tail.foldl max ((ns.map (fun n => if n < 0 then -n else n) ++ [0]).headD 0)] many hm _ (by simp) rfl
    refine ⟨.int r, t', ?_, ⟨r, rfl, h2, h3⟩, by simp at h4 ⊢; omega⟩
    rw [ev _ _ ⟨some [], o⟩ ⟨some [(ns.map (fun n => if n < 0 then -n else n) ++ [0]).tail.foldl max ((ns.map (fun n => if n < 0 then -n else n) ++ [0]).headD 0)], o⟩ .non (by
      unfold twApp; simp only; rw [if_pos (by rw [sizeIs]; simp)]; rfl)]
    exact h1
theorem dr_pick {ns : List Int} {l : List D} (hn : ns.length ≤ 63) (hl : l ≠ []) : Dr 2 (m__law_pick [.scr ns, .town, .lst l]) (fun d => d ∈ l) := by
  show Dr 2 (p__law_pick (.scr ns) .town (.lst l)) _
  unfold p__law_pick
  simp only [in_int, ng_int, mx_nil, mx_cons, o_ne_self, o_eq_self, ls_lst, Pm.pure_bind, bad_bind, raise_bind, opt_some, opt_none, Pm.bind_assoc, Pm.bind_pure, f_bin, f_nil, f_cons, f_tup, f_lst, f_call, f_cb, f_if, f_of, f_ofv, f_tru, f_andB, f_orB, f_notB, f_and, f_or, f_not, f_neg, f_chain, f_sl, f_ono, f_oso, f_items, f_zip, f_enum, f_rng, f_lc, f_lcf, f_lc2, f_in, f_lz, f_app, f_ext, f_seti, f_isi, f_u2, f_u3, f_u4, i_tup, i_lst, z_tup, z_lst, zl_nil, zl_cons, en_tup, en_lst, en_nil, en_cons, x_nil, x_cons, x_map, x_pure, xf_nil, xf_cons, xc_nil, xc_cons, noEx_pure, o_add, o_sub, o_lt, o_le, o_gt, o_ge, o_eq, o_ne, o_mulL, o_mulR, o_div, o_mod, o_addT, o_addL, o_iadd, Pm.ix_tup, ix_lst, Pm.sl_tup, sl_lst, b_len_t, b_len_l, b_abs, b_int_i, b_int_b, b_sum, b_all, b_any, b_tup_l, b_tup_t, b_lst_l, b_lst_t, b_max2, b_max3, b_min2, b_min3, t_bl, t_int, t_tup, t_lst, t_non, a_app, a_ext, bl_bl, decide_true, decide_false, Bool.not_true, Bool.not_false, if_true, if_false, Bool.false_eq_true, for_nil, for_cons, ls_cons, ls_nil, at0, at1, at2, at3, at4, List.cons_append, List.nil_append, List.length_cons, List.length_nil, List.length_map, n_ot, isi_int', isi_bool', isi_tup', isi_str', dn_non, dn_int, dn_tup, dn_str, dn_bl, dnn_non, dnn_int, dnn_tup, dnn_str, dnn_bl, decide_eq_true_eq, fBin, fCons, fTup, fLst, fCall, fCB, fIf, fOf, fTru, fAndB, fOrB, fNotB, fAnd, fOr, fNot, fNeg, fChain, fSl, fOSo, fItems, fZip, fEnum, fRng, fLC, fLCf, fLC2, fIn, fLz, fApp, fExt, fSetI, fIsi]
  have hp0 : (0 : Int) < l.length := by cases l with | nil => exact absurd rfl hl | cons => simp only [List.length_cons]; omega
  refine Dr.then 2 (dr_draw hn hp0) (by omega) fun d ⟨r, e, h1, h2⟩ => ?_
  subst e
  obtain ⟨x, hx, q⟩ := atI_mem h1 h2
  rw [ix_lst, q]
  exact Dr.pure hx
/-! ### colours -/
abbrev C4 := Int × Int × Int × Int
def col (c : C4) : D := .tup [.int c.1, .int c.2.1, .int c.2.2.1, .int c.2.2.2]
def okc (c : C4) : Prop := (0 ≤ c.1 ∧ c.1 ≤ 255) ∧ (0 ≤ c.2.1 ∧ c.2.1 ≤ 255) ∧ (0 ≤ c.2.2.1 ∧ c.2.2.1 ≤ 255) ∧ 0 ≤ c.2.2.2 ∧ c.2.2.2 ≤ 255
def IsPart (d : D) : Prop := ∃ r : Int, d = .int r ∧ 0 ≤ r ∧ r ≤ 255
theorem dr_colour {ns : List Int} (hn : ns.length ≤ 63) : Dr 14 (m__law_drawn_colour [.scr ns, .town]) (fun d => ∃ c, d = col c ∧ okc c) := by
  show Dr 14 (p__law_drawn_colour (.scr ns) .town) _
  unfold p__law_drawn_colour
  simp only [in_int, ng_int, mx_nil, mx_cons, o_ne_self, o_eq_self, ls_lst, Pm.pure_bind, bad_bind, raise_bind, opt_some, opt_none, Pm.bind_assoc, Pm.bind_pure, f_bin, f_nil, f_cons, f_tup, f_lst, f_call, f_cb, f_if, f_of, f_ofv, f_tru, f_andB, f_orB, f_notB, f_and, f_or, f_not, f_neg, f_chain, f_sl, f_ono, f_oso, f_items, f_zip, f_enum, f_rng, f_lc, f_lcf, f_lc2, f_in, f_lz, f_app, f_ext, f_seti, f_isi, f_u2, f_u3, f_u4, i_tup, i_lst, z_tup, z_lst, zl_nil, zl_cons, en_tup, en_lst, en_nil, en_cons, x_nil, x_cons, x_map, x_pure, xf_nil, xf_cons, xc_nil, xc_cons, noEx_pure, o_add, o_sub, o_lt, o_le, o_gt, o_ge, o_eq, o_ne, o_mulL, o_mulR, o_div, o_mod, o_addT, o_addL, o_iadd, Pm.ix_tup, ix_lst, Pm.sl_tup, sl_lst, b_len_t, b_len_l, b_abs, b_int_i, b_int_b, b_sum, b_all, b_any, b_tup_l, b_tup_t, b_lst_l, b_lst_t, b_max2, b_max3, b_min2, b_min3, t_bl, t_int, t_tup, t_lst, t_non, a_app, a_ext, bl_bl, decide_true, decide_false, Bool.not_true, Bool.not_false, if_true, if_false, Bool.false_eq_true, for_nil, for_cons, ls_cons, ls_nil, at0, at1, at2, at3, at4, List.cons_append, List.nil_append, List.length_cons, List.length_nil, List.length_map, n_ot, isi_int', isi_bool', isi_tup', isi_str', dn_non, dn_int, dn_tup, dn_str, dn_bl, dnn_non, dnn_int, dnn_tup, dnn_str, dnn_bl, decide_eq_true_eq, fBin, fCons, fTup, fLst, fCall, fCB, fIf, fOf, fTru, fAndB, fOrB, fNotB, fAnd, fOr, fNot, fNeg, fChain, fSl, fOSo, fItems, fZip, fEnum, fRng, fLC, fLCf, fLC2, fIn, fLz, fApp, fExt, fSetI, fIsi]
  refine Dr.then 2 (dr_draw hn (by decide)) (by omega) fun d ⟨r1, e, a1, a2⟩ => ?_
  subst e
  refine Dr.then 2 (dr_draw hn (by decide)) (by omega) fun d ⟨r2, e, b1, b2⟩ => ?_
  subst e
  rw [show rngF [D.int 3] = some [.int 0, .int 1, .int 2] from rng_A (by decide) (by decide)]
  simp only [in_int, ng_int, mx_nil, mx_cons, o_ne_self, o_eq_self, ls_lst, Pm.pure_bind, bad_bind, raise_bind, opt_some, opt_none, Pm.bind_assoc, Pm.bind_pure, f_bin, f_nil, f_cons, f_tup, f_lst, f_call, f_cb, f_if, f_of, f_ofv, f_tru, f_andB, f_orB, f_notB, f_and, f_or, f_not, f_neg, f_chain, f_sl, f_ono, f_oso, f_items, f_zip, f_enum, f_rng, f_lc, f_lcf, f_lc2, f_in, f_lz, f_app, f_ext, f_seti, f_isi, f_u2, f_u3, f_u4, i_tup, i_lst, z_tup, z_lst, zl_nil, zl_cons, en_tup, en_lst, en_nil, en_cons, x_nil, x_cons, x_map, x_pure, xf_nil, xf_cons, xc_nil, xc_cons, noEx_pure, o_add, o_sub, o_lt, o_le, o_gt, o_ge, o_eq, o_ne, o_mulL, o_mulR, o_div, o_mod, o_addT, o_addL, o_iadd, Pm.ix_tup, ix_lst, Pm.sl_tup, sl_lst, b_len_t, b_len_l, b_abs, b_int_i, b_int_b, b_sum, b_all, b_any, b_tup_l, b_tup_t, b_lst_l, b_lst_t, b_max2, b_max3, b_min2, b_min3, t_bl, t_int, t_tup, t_lst, t_non, a_app, a_ext, bl_bl, decide_true, decide_false, Bool.not_true, Bool.not_false, if_true, if_false, Bool.false_eq_true, for_nil, for_cons, ls_cons, ls_nil, at0, at1, at2, at3, at4, List.cons_append, List.nil_append, List.length_cons, List.length_nil, List.length_map, n_ot, isi_int', isi_bool', isi_tup', isi_str', dn_non, dn_int, dn_tup, dn_str, dn_bl, dnn_non, dnn_int, dnn_tup, dnn_str, dnn_bl, decide_eq_true_eq, fBin, fCons, fTup, fLst, fCall, fCB, fIf, fOf, fTru, fAndB, fOrB, fNotB, fAnd, fOr, fNot, fNeg, fChain, fSl, fOSo, fItems, fZip, fEnum, fRng, fLC, fLCf, fLC2, fIn, fLz, fApp, fExt, fSetI, fIsi]
  have hs : ∀ x ∈ [D.int 0, .int 255, .int r1, .int r2], IsPart x := by
    intro x hx
    simp only [List.mem_cons, List.not_mem_nil, or_false] at hx
    rcases hx with rfl | rfl | rfl | rfl
    · exact ⟨0, rfl, by decide, by decide⟩
    · exact ⟨255, rfl, by decide, by decide⟩
    · exact ⟨r1, rfl, by omega, by omega⟩
    · exact ⟨r2, rfl, by omega, by omega⟩
  refine Dr.then 2 (dr_pick hn (by simp)).noEx (by omega) fun d hd => ?_
  obtain ⟨x1, rfl, c1⟩ := hs d hd
  refine Dr.then 2 (dr_pick hn (by simp)).noEx (by omega) fun d hd => ?_
  obtain ⟨x2, rfl, c2⟩ := hs d hd
  refine Dr.then 2 (dr_pick hn (by simp)).noEx (by omega) fun d hd => ?_
  obtain ⟨x3, rfl, c3⟩ := hs d hd
  refine Dr.then 2 (dr_draw hn (by decide)) (by omega) fun d ⟨r4, e, g1, g2⟩ => ?_
  subst e
  refine Dr.then 2 (dr_pick hn (by simp)) (by omega) fun d hd => ?_
  have hx : IsPart d := by
    simp only [List.mem_cons, List.not_mem_nil, or_false] at hd
    rcases hd with rfl | rfl | rfl | rfl
    · exact ⟨255, rfl, by decide, by decide⟩
    · exact ⟨255, rfl, by decide, by decide⟩
    · exact ⟨0, rfl, by decide, by decide⟩
    · exact ⟨r4, rfl, by omega, by omega⟩
  obtain ⟨x4, rfl, c4⟩ := hx
  exact Dr.pure ⟨(x1, x2, x3, x4), rfl, c1, c2, c3, c4⟩
/-! ### what the colours' defs compute -/
def rnd (a b : Int) : Int := (2 * a + b) / (2 * b)
theorem rounded_eq {a b : Int} (h1 : 0 < b) (h2 : b < 500000000) : m_rounded [.int a, .int b] = M.pure (.int (rnd a b)) := by
  show p_rounded (.int a) (.int b) = _
  unfold p_rounded
  simp (config := { maxSteps := 3000000 }) (disch := first | omega | (simp only [List.length_map, List.length_cons, List.length_nil, List.length_append, List.length_replicate, List.length_set, List.length_range, nts_len, List.length_take, List.length_drop]; omega) | kernel_rfl) only [in_int, ng_int, mx_nil, mx_cons, o_ne_self, o_eq_self, ls_lst, Pm.pure_bind, bad_bind, raise_bind, opt_some, opt_none, Pm.bind_assoc, Pm.bind_pure, f_bin, f_nil, f_cons, f_tup, f_lst, f_call, f_cb, f_if, f_of, f_ofv, f_tru, f_andB, f_orB, f_notB, f_and, f_or, f_not, f_neg, f_chain, f_sl, f_ono, f_oso, f_items, f_zip, f_enum, f_rng, f_lc, f_lcf, f_lc2, f_in, f_lz, f_app, f_ext, f_seti, f_isi, f_u2, f_u3, f_u4, i_tup, i_lst, z_tup, z_lst, zl_nil, zl_cons, en_tup, en_lst, en_nil, en_cons, x_nil, x_cons, x_map, x_pure, xf_nil, xf_cons, xc_nil, xc_cons, noEx_pure, o_add, o_sub, o_lt, o_le, o_gt, o_ge, o_eq, o_ne, o_mulL, o_mulR, o_div, o_mod, o_addT, o_addL, o_iadd, Pm.ix_tup, ix_lst, Pm.sl_tup, sl_lst, b_len_t, b_len_l, b_abs, b_int_i, b_int_b, b_sum, b_all, b_any, b_tup_l, b_tup_t, b_lst_l, b_lst_t, b_max2, b_max3, b_min2, b_min3, t_bl, t_int, t_tup, t_lst, t_non, a_app, a_ext, bl_bl, decide_true, decide_false, Bool.not_true, Bool.not_false, if_true, if_false, Bool.false_eq_true, for_nil, for_cons, ls_cons, ls_nil, at0, at1, at2, at3, at4, List.cons_append, List.nil_append, List.length_cons, List.length_nil, List.length_map, n_ot, isi_int', isi_bool', isi_tup', isi_str', dn_non, dn_int, dn_tup, dn_str, dn_bl, dnn_non, dnn_int, dnn_tup, dnn_str, dnn_bl, decide_eq_true_eq, fBin, fCons, fTup, fLst, fCall, fCB, fIf, fOf, fTru, fAndB, fOrB, fNotB, fAnd, fOr, fNot, fNeg, fChain, fSl, fOSo, fItems, fZip, fEnum, fRng, fLC, fLCf, fLC2, fIn, fLz, fApp, fExt, fSetI, fIsi]
  rfl
def greyI (a b c : Int) : Int := rnd (299 * a + 587 * b + 114 * c) 1000
theorem grey_eq (a b c d : Int) : m_grey [.tup [.int a, .int b, .int c, .int d]] = M.pure (.tup [.int (greyI a b c), .int (greyI a b c), .int (greyI a b c), .int d]) := by
  show p_grey _ = _
  unfold p_grey
  simp (config := { maxSteps := 3000000 }) (disch := first | omega | (simp only [List.length_map, List.length_cons, List.length_nil, List.length_append, List.length_replicate, List.length_set, List.length_range, nts_len, List.length_take, List.length_drop]; omega) | kernel_rfl) only [in_int, ng_int, mx_nil, mx_cons, o_ne_self, o_eq_self, ls_lst, Pm.pure_bind, bad_bind, raise_bind, opt_some, opt_none, Pm.bind_assoc, Pm.bind_pure, f_bin, f_nil, f_cons, f_tup, f_lst, f_call, f_cb, f_if, f_of, f_ofv, f_tru, f_andB, f_orB, f_notB, f_and, f_or, f_not, f_neg, f_chain, f_sl, f_ono, f_oso, f_items, f_zip, f_enum, f_rng, f_lc, f_lcf, f_lc2, f_in, f_lz, f_app, f_ext, f_seti, f_isi, f_u2, f_u3, f_u4, i_tup, i_lst, z_tup, z_lst, zl_nil, zl_cons, en_tup, en_lst, en_nil, en_cons, x_nil, x_cons, x_map, x_pure, xf_nil, xf_cons, xc_nil, xc_cons, noEx_pure, o_add, o_sub, o_lt, o_le, o_gt, o_ge, o_eq, o_ne, o_mulL, o_mulR, o_div, o_mod, o_addT, o_addL, o_iadd, Pm.ix_tup, ix_lst, Pm.sl_tup, sl_lst, b_len_t, b_len_l, b_abs, b_int_i, b_int_b, b_sum, b_all, b_any, b_tup_l, b_tup_t, b_lst_l, b_lst_t, b_max2, b_max3, b_min2, b_min3, t_bl, t_int, t_tup, t_lst, t_non, a_app, a_ext, bl_bl, decide_true, decide_false, Bool.not_true, Bool.not_false, if_true, if_false, Bool.false_eq_true, for_nil, for_cons, ls_cons, ls_nil, at0, at1, at2, at3, at4, List.cons_append, List.nil_append, List.length_cons, List.length_nil, List.length_map, n_ot, isi_int', isi_bool', isi_tup', isi_str', dn_non, dn_int, dn_tup, dn_str, dn_bl, dnn_non, dnn_int, dnn_tup, dnn_str, dnn_bl, decide_eq_true_eq, fBin, fCons, fTup, fLst, fCall, fCB, fIf, fOf, fTru, fAndB, fOrB, fNotB, fAnd, fOr, fNot, fNeg, fChain, fSl, fOSo, fItems, fZip, fEnum, fRng, fLC, fLCf, fLC2, fIn, fLz, fApp, fExt, fSetI, fIsi, rounded_eq]
  rfl
theorem shared_eq {a b c d a' b' c' d' s : Int} (hs : -1000 < s ∧ s < 1000) : m_shared [.tup [.int a, .int b, .int c, .int d], .tup [.int a', .int b', .int c', .int d'], .int s] = M.pure (.tup [.int (rnd (a * (255 - s) + a' * s) 255), .int (rnd (b * (255 - s) + b' * s) 255), .int (rnd (c * (255 - s) + c' * s) 255), .int (rnd (d * (255 - s) + d' * s) 255)]) := by
  show p_shared _ _ _ = _
  unfold p_shared
  simp (config := { maxSteps := 3000000 }) (disch := first | omega | (simp only [List.length_map, List.length_cons, List.length_nil, List.length_append, List.length_replicate, List.length_set, List.length_range, nts_len, List.length_take, List.length_drop]; omega) | kernel_rfl) only [in_int, ng_int, mx_nil, mx_cons, o_ne_self, o_eq_self, ls_lst, Pm.pure_bind, bad_bind, raise_bind, opt_some, opt_none, Pm.bind_assoc, Pm.bind_pure, f_bin, f_nil, f_cons, f_tup, f_lst, f_call, f_cb, f_if, f_of, f_ofv, f_tru, f_andB, f_orB, f_notB, f_and, f_or, f_not, f_neg, f_chain, f_sl, f_ono, f_oso, f_items, f_zip, f_enum, f_rng, f_lc, f_lcf, f_lc2, f_in, f_lz, f_app, f_ext, f_seti, f_isi, f_u2, f_u3, f_u4, i_tup, i_lst, z_tup, z_lst, zl_nil, zl_cons, en_tup, en_lst, en_nil, en_cons, x_nil, x_cons, x_map, x_pure, xf_nil, xf_cons, xc_nil, xc_cons, noEx_pure, o_add, o_sub, o_lt, o_le, o_gt, o_ge, o_eq, o_ne, o_mulL, o_mulR, o_div, o_mod, o_addT, o_addL, o_iadd, Pm.ix_tup, ix_lst, Pm.sl_tup, sl_lst, b_len_t, b_len_l, b_abs, b_int_i, b_int_b, b_sum, b_all, b_any, b_tup_l, b_tup_t, b_lst_l, b_lst_t, b_max2, b_max3, b_min2, b_min3, t_bl, t_int, t_tup, t_lst, t_non, a_app, a_ext, bl_bl, decide_true, decide_false, Bool.not_true, Bool.not_false, if_true, if_false, Bool.false_eq_true, for_nil, for_cons, ls_cons, ls_nil, at0, at1, at2, at3, at4, List.cons_append, List.nil_append, List.length_cons, List.length_nil, List.length_map, n_ot, isi_int', isi_bool', isi_tup', isi_str', dn_non, dn_int, dn_tup, dn_str, dn_bl, dnn_non, dnn_int, dnn_tup, dnn_str, dnn_bl, decide_eq_true_eq, fBin, fCons, fTup, fLst, fCall, fCB, fIf, fOf, fTru, fAndB, fOrB, fNotB, fAnd, fOr, fNot, fNeg, fChain, fSl, fOSo, fItems, fZip, fEnum, fRng, fLC, fLCf, fLC2, fIn, fLz, fApp, fExt, fSetI, fIsi, rounded_eq]
theorem cut3 (a b c d : D) : cutL [a, b, c, d] none (some 3) = [a, b, c] := rfl
theorem faded_eq {a b c d s : Int} (hs : -1000 < s ∧ s < 1000) : m_faded [.tup [.int a, .int b, .int c, .int d], .int s] = M.pure (.tup [.int a, .int b, .int c, .int (rnd (d * s) 255)]) := by
  show p_faded _ _ = _
  unfold p_faded
  simp (config := { maxSteps := 3000000 }) (disch := first | omega | (simp only [List.length_map, List.length_cons, List.length_nil, List.length_append, List.length_replicate, List.length_set, List.length_range, nts_len, List.length_take, List.length_drop]; omega) | kernel_rfl) only [in_int, ng_int, mx_nil, mx_cons, o_ne_self, o_eq_self, ls_lst, Pm.pure_bind, bad_bind, raise_bind, opt_some, opt_none, Pm.bind_assoc, Pm.bind_pure, f_bin, f_nil, f_cons, f_tup, f_lst, f_call, f_cb, f_if, f_of, f_ofv, f_tru, f_andB, f_orB, f_notB, f_and, f_or, f_not, f_neg, f_chain, f_sl, f_ono, f_oso, f_items, f_zip, f_enum, f_rng, f_lc, f_lcf, f_lc2, f_in, f_lz, f_app, f_ext, f_seti, f_isi, f_u2, f_u3, f_u4, i_tup, i_lst, z_tup, z_lst, zl_nil, zl_cons, en_tup, en_lst, en_nil, en_cons, x_nil, x_cons, x_map, x_pure, xf_nil, xf_cons, xc_nil, xc_cons, noEx_pure, o_add, o_sub, o_lt, o_le, o_gt, o_ge, o_eq, o_ne, o_mulL, o_mulR, o_div, o_mod, o_addT, o_addL, o_iadd, Pm.ix_tup, ix_lst, Pm.sl_tup, sl_lst, b_len_t, b_len_l, b_abs, b_int_i, b_int_b, b_sum, b_all, b_any, b_tup_l, b_tup_t, b_lst_l, b_lst_t, b_max2, b_max3, b_min2, b_min3, t_bl, t_int, t_tup, t_lst, t_non, a_app, a_ext, bl_bl, decide_true, decide_false, Bool.not_true, Bool.not_false, if_true, if_false, Bool.false_eq_true, for_nil, for_cons, ls_cons, ls_nil, at0, at1, at2, at3, at4, List.cons_append, List.nil_append, List.length_cons, List.length_nil, List.length_map, n_ot, isi_int', isi_bool', isi_tup', isi_str', dn_non, dn_int, dn_tup, dn_str, dn_bl, dnn_non, dnn_int, dnn_tup, dnn_str, dnn_bl, decide_eq_true_eq, fBin, fCons, fTup, fLst, fCall, fCB, fIf, fOf, fTru, fAndB, fOrB, fNotB, fAnd, fOr, fNot, fNeg, fChain, fSl, fOSo, fItems, fZip, fEnum, fRng, fLC, fLCf, fLC2, fIn, fLz, fApp, fExt, fSetI, fIsi, rounded_eq, cut3]
theorem distance_eq {a b c d a' b' c' d' : Int} (h : okc (a, b, c, d)) (h' : okc (a', b', c', d')) : m_distance [.tup [.int a, .int b, .int c, .int d], .tup [.int a', .int b', .int c', .int d']] = M.pure (.int ((a - a') * (a - a') + ((b - b') * (b - b') + ((c - c') * (c - c') + ((d - d') * (d - d') + 0))))) := by
  simp only [okc] at h h'
  show p_distance _ _ = _
  unfold p_distance
  simp (config := { maxSteps := 3000000 }) (disch := first | omega | (simp only [List.length_map, List.length_cons, List.length_nil, List.length_append, List.length_replicate, List.length_set, List.length_range, nts_len, List.length_take, List.length_drop]; omega) | kernel_rfl) only [in_int, ng_int, mx_nil, mx_cons, o_ne_self, o_eq_self, ls_lst, Pm.pure_bind, bad_bind, raise_bind, opt_some, opt_none, Pm.bind_assoc, Pm.bind_pure, f_bin, f_nil, f_cons, f_tup, f_lst, f_call, f_cb, f_if, f_of, f_ofv, f_tru, f_andB, f_orB, f_notB, f_and, f_or, f_not, f_neg, f_chain, f_sl, f_ono, f_oso, f_items, f_zip, f_enum, f_rng, f_lc, f_lcf, f_lc2, f_in, f_lz, f_app, f_ext, f_seti, f_isi, f_u2, f_u3, f_u4, i_tup, i_lst, z_tup, z_lst, zl_nil, zl_cons, en_tup, en_lst, en_nil, en_cons, x_nil, x_cons, x_map, x_pure, xf_nil, xf_cons, xc_nil, xc_cons, noEx_pure, o_add, o_sub, o_lt, o_le, o_gt, o_ge, o_eq, o_ne, o_mulL, o_mulR, o_div, o_mod, o_addT, o_addL, o_iadd, Pm.ix_tup, ix_lst, Pm.sl_tup, sl_lst, b_len_t, b_len_l, b_abs, b_int_i, b_int_b, b_sum, b_all, b_any, b_tup_l, b_tup_t, b_lst_l, b_lst_t, b_max2, b_max3, b_min2, b_min3, t_bl, t_int, t_tup, t_lst, t_non, a_app, a_ext, bl_bl, decide_true, decide_false, Bool.not_true, Bool.not_false, if_true, if_false, Bool.false_eq_true, for_nil, for_cons, ls_cons, ls_nil, at0, at1, at2, at3, at4, List.cons_append, List.nil_append, List.length_cons, List.length_nil, List.length_map, n_ot, isi_int', isi_bool', isi_tup', isi_str', dn_non, dn_int, dn_tup, dn_str, dn_bl, dnn_non, dnn_int, dnn_tup, dnn_str, dnn_bl, decide_eq_true_eq, fBin, fCons, fTup, fLst, fCall, fCB, fIf, fOf, fTru, fAndB, fOrB, fNotB, fAnd, fOr, fNot, fNeg, fChain, fSl, fOSo, fItems, fZip, fEnum, fRng, fLC, fLCf, fLC2, fIn, fLz, fApp, fExt, fSetI, fIsi, intsOf, Option.map_some, List.sum_cons, List.sum_nil]
/-- top over bottom -/
def overC (t b : C4) : C4 :=
  if 255 * t.2.2.2 + b.2.2.2 * (255 - t.2.2.2) = 0 then (0, 0, 0, 0) else
  (rnd (255 * t.2.2.2 * t.1 + b.2.2.2 * (255 - t.2.2.2) * b.1) (255 * t.2.2.2 + b.2.2.2 * (255 - t.2.2.2)), rnd (255 * t.2.2.2 * t.2.1 + b.2.2.2 * (255 - t.2.2.2) * b.2.1) (255 * t.2.2.2 + b.2.2.2 * (255 - t.2.2.2)), rnd (255 * t.2.2.2 * t.2.2.1 + b.2.2.2 * (255 - t.2.2.2) * b.2.2.1) (255 * t.2.2.2 + b.2.2.2 * (255 - t.2.2.2)), rnd (255 * t.2.2.2 + b.2.2.2 * (255 - t.2.2.2)) 255)
theorem mul_bd {x y : Int} (h : 0 ≤ x ∧ x ≤ 255) (h' : 0 ≤ y ∧ y ≤ 255) : 0 ≤ x * y ∧ x * y ≤ 65025 := ⟨Int.mul_nonneg h.1 h'.1, Int.le_trans (Int.mul_le_mul h.2 h'.2 h'.1 (by decide)) (by decide)⟩
theorem over_eq {t b : C4} (ht : okc t) (hb : okc b) : m_laid_over [col t, col b] = M.pure (col (overC t b)) := by
  obtain ⟨a, b', c, d⟩ := t
  obtain ⟨e, f, g, h⟩ := b
  simp only [okc] at ht hb
  have hm := mul_bd (x := h) (y := 255 - d) ⟨by omega, by omega⟩ ⟨by omega, by omega⟩
  unfold col
  show p_laid_over _ _ = _
  unfold p_laid_over overC
  generalize hl : h * (255 - d) = low at hm
  simp only
  simp (config := { maxSteps := 3000000 }) (disch := first | omega | (simp only [List.length_map, List.length_cons, List.length_nil, List.length_append, List.length_replicate, List.length_set, List.length_range, nts_len, List.length_take, List.length_drop]; omega) | kernel_rfl) only [in_int, ng_int, mx_nil, mx_cons, o_ne_self, o_eq_self, ls_lst, Pm.pure_bind, bad_bind, raise_bind, opt_some, opt_none, Pm.bind_assoc, Pm.bind_pure, f_bin, f_nil, f_cons, f_tup, f_lst, f_call, f_cb, f_if, f_of, f_ofv, f_tru, f_andB, f_orB, f_notB, f_and, f_or, f_not, f_neg, f_chain, f_sl, f_ono, f_oso, f_items, f_zip, f_enum, f_rng, f_lc, f_lcf, f_lc2, f_in, f_lz, f_app, f_ext, f_seti, f_isi, f_u2, f_u3, f_u4, i_tup, i_lst, z_tup, z_lst, zl_nil, zl_cons, en_tup, en_lst, en_nil, en_cons, x_nil, x_cons, x_map, x_pure, xf_nil, xf_cons, xc_nil, xc_cons, noEx_pure, o_add, o_sub, o_lt, o_le, o_gt, o_ge, o_eq, o_ne, o_mulL, o_mulR, o_div, o_mod, o_addT, o_addL, o_iadd, Pm.ix_tup, ix_lst, Pm.sl_tup, sl_lst, b_len_t, b_len_l, b_abs, b_int_i, b_int_b, b_sum, b_all, b_any, b_tup_l, b_tup_t, b_lst_l, b_lst_t, b_max2, b_max3, b_min2, b_min3, t_bl, t_int, t_tup, t_lst, t_non, a_app, a_ext, bl_bl, decide_true, decide_false, Bool.not_true, Bool.not_false, if_true, if_false, Bool.false_eq_true, for_nil, for_cons, ls_cons, ls_nil, at0, at1, at2, at3, at4, List.cons_append, List.nil_append, List.length_cons, List.length_nil, List.length_map, n_ot, isi_int', isi_bool', isi_tup', isi_str', dn_non, dn_int, dn_tup, dn_str, dn_bl, dnn_non, dnn_int, dnn_tup, dnn_str, dnn_bl, decide_eq_true_eq, fBin, fCons, fTup, fLst, fCall, fCB, fIf, fOf, fTru, fAndB, fOrB, fNotB, fAnd, fOr, fNot, fNeg, fChain, fSl, fOSo, fItems, fZip, fEnum, fRng, fLC, fLCf, fLC2, fIn, fLz, fApp, fExt, fSetI, fIsi, hl, cut3]
  by_cases h0 : 255 * d + low = 0
  · simp only [h0, beq_self_eq_true, if_true, if_pos]
  · have hq : (255 * d + low == 0) = false := by simpa using h0
    simp (config := { maxSteps := 3000000 }) (disch := first | omega | (simp only [List.length_map, List.length_cons, List.length_nil, List.length_append, List.length_replicate, List.length_set, List.length_range, nts_len, List.length_take, List.length_drop]; omega) | kernel_rfl) only [hq, if_neg h0, in_int, ng_int, mx_nil, mx_cons, o_ne_self, o_eq_self, ls_lst, Pm.pure_bind, bad_bind, raise_bind, opt_some, opt_none, Pm.bind_assoc, Pm.bind_pure, f_bin, f_nil, f_cons, f_tup, f_lst, f_call, f_cb, f_if, f_of, f_ofv, f_tru, f_andB, f_orB, f_notB, f_and, f_or, f_not, f_neg, f_chain, f_sl, f_ono, f_oso, f_items, f_zip, f_enum, f_rng, f_lc, f_lcf, f_lc2, f_in, f_lz, f_app, f_ext, f_seti, f_isi, f_u2, f_u3, f_u4, i_tup, i_lst, z_tup, z_lst, zl_nil, zl_cons, en_tup, en_lst, en_nil, en_cons, x_nil, x_cons, x_map, x_pure, xf_nil, xf_cons, xc_nil, xc_cons, noEx_pure, o_add, o_sub, o_lt, o_le, o_gt, o_ge, o_eq, o_ne, o_mulL, o_mulR, o_div, o_mod, o_addT, o_addL, o_iadd, Pm.ix_tup, ix_lst, Pm.sl_tup, sl_lst, b_len_t, b_len_l, b_abs, b_int_i, b_int_b, b_sum, b_all, b_any, b_tup_l, b_tup_t, b_lst_l, b_lst_t, b_max2, b_max3, b_min2, b_min3, t_bl, t_int, t_tup, t_lst, t_non, a_app, a_ext, bl_bl, decide_true, decide_false, Bool.not_true, Bool.not_false, if_true, if_false, Bool.false_eq_true, for_nil, for_cons, ls_cons, ls_nil, at0, at1, at2, at3, at4, List.cons_append, List.nil_append, List.length_cons, List.length_nil, List.length_map, n_ot, isi_int', isi_bool', isi_tup', isi_str', dn_non, dn_int, dn_tup, dn_str, dn_bl, dnn_non, dnn_int, dnn_tup, dnn_str, dnn_bl, decide_eq_true_eq, fBin, fCons, fTup, fLst, fCall, fCB, fIf, fOf, fTru, fAndB, fOrB, fNotB, fAnd, fOr, fNot, fNeg, fChain, fSl, fOSo, fItems, fZip, fEnum, fRng, fLC, fLCf, fLC2, fIn, fLz, fApp, fExt, fSetI, fIsi, rounded_eq]
end Pm
end
noncomputable section
namespace Pm
open PySem
def p__law_same (rec_ : Mf) (_law_got_ : D) (_law_due_ : D) : M D :=
  (fIf (fOf (fBin isND (M.pure _law_due_) (M.pure D.non)))
  (fBin isND (M.pure _law_got_) (M.pure D.non))
  (fIf (fTru (fIsi "bool" (M.pure _law_due_)))
  (fAnd (fIsi "bool" (M.pure _law_got_)) (fBin eqD (M.pure _law_got_) (M.pure _law_due_)))
  (fIf (fTru (fIsi "tuple" (M.pure _law_due_)))
  (fIf (fOrB (fNotB (fTru (fIsi "tuple" (M.pure _law_got_)))) (fOf (fBin neD (fCB lenF (fCons (M.pure _law_got_) fNil)) (fCB lenF (fCons (M.pure _law_due_) fNil)))))
  (M.pure (D.bl false))
  (fCB allF (fCons (fLC (fZip (fCons (M.pure _law_got_) (fCons (M.pure _law_due_) fNil))) fun it1_ => (fU2 it1_ fun _law_one_ _law_other_ => (fCall rec_ (fCons (M.pure _law_one_) (fCons (M.pure _law_other_) fNil))))) fNil)))
  (fIf (fTru (fIsi "str" (M.pure _law_due_)))
  (fAnd (fIsi "str" (M.pure _law_got_)) (fBin eqD (M.pure _law_got_) (M.pure _law_due_)))
  (fAnd (fIsi "int" (M.pure _law_got_)) (fAnd (fNot (fIsi "bool" (M.pure _law_got_))) (fBin eqD (M.pure _law_got_) (M.pure _law_due_))))))))
def b__law_same (rec_ : Mf) : Mf := fun ds => match ds with
  | [_law_got_, _law_due_] => p__law_same rec_ _law_got_ _law_due_
  | _ => M.bad
abbrev m__law_same : Nat → Mf := recF b__law_same
def p__law_round (_law_one_ : D) (_law_by_ : D) : M D :=
  (fBin fdivD (fBin addD (fBin mulD (M.pure (D.int 2)) (M.pure _law_one_)) (M.pure _law_by_)) (fBin mulD (M.pure (D.int 2)) (M.pure _law_by_)))
def m__law_round : Mf := fun ds => match ds with
  | [_law_one_, _law_by_] => p__law_round _law_one_ _law_by_
  | _ => M.bad
def p__law_drawn_picture (_law_script_ : D) (_law_town_ : D) (_law_width_ : D) (_law_height_ : D) (_law_many_ : D) : M D :=
  (M.bind (fLC (fRng (fCons (M.pure _law_many_) fNil)) fun _law_k_ => (fCall m__law_drawn_colour (fCons (M.pure _law_script_) (fCons (M.pure _law_town_) fNil)))) fun _law_some_ =>
  (fTup (fCons (M.pure _law_width_) (fCons (M.pure _law_height_) (fCons (fCB tupF (fCons (fLC (fRng (fCons (fBin mulD (M.pure _law_width_) (M.pure _law_height_)) fNil)) fun _law_k_ => (fCall m__law_pick (fCons (M.pure _law_script_) (fCons (M.pure _law_town_) (fCons (M.pure _law_some_) fNil))))) fNil)) fNil)))))
def m__law_drawn_picture : Mf := fun ds => match ds with
  | [_law_script_, _law_town_, _law_width_, _law_height_, _law_many_] => p__law_drawn_picture _law_script_ _law_town_ _law_width_ _law_height_ _law_many_
  | _ => M.bad
/-! ### the law's own likeness -/
/-- plain data, tuples at most n deep -/
def pd : Nat → D → Bool
  | _, .non => true
  | _, .bl _ => true
  | _, .int _ => true
  | _, .str _ => true
  | n + 1, .tup l => l.all (pd n)
  | _, _ => false
theorem pd_tup (n : Nat) (l : List D) : pd (n + 1) (.tup l) = l.all (pd n) := by rw [pd]
theorem pd_int (n : Nat) (i : Int) : pd n (.int i) = true := by unfold pd; rfl
theorem pd_tup0 (l : List D) : pd 0 (.tup l) = false := by rw [pd] <;> (intros; contradiction)
theorem eq_bl (b : Bool) : eqD (.bl b) (.bl b) = some (.bl true) := by unfold eqD; rw [if_pos (.inl rfl)]; unfold deq; simp
theorem eq_str (x : Str) : eqD (.str x) (.str x) = some (.bl true) := by unfold eqD; rw [if_pos (.inl rfl)]; unfold deq; simp
theorem eq_int (i : Int) : eqD (.int i) (.int i) = some (.bl true) := by rw [o_eq]; simp
theorem zipL_self (l : List D) : zipL l l = l.map fun d => .tup [d, d] := by
  induction l with
  | nil => rfl
  | cons d l ih => simp [zipL, ih]
theorem blsOf_rep (n : Nat) : blsOf (List.replicate n (.bl true)) = some (List.replicate n true) := by
  induction n with
  | zero => rfl
  | succ n ih => simp [List.replicate_succ, blsOf, ih]
theorem all_rep (n : Nat) : (List.replicate n true).all id = true := by
  induction n with
  | zero => rfl
  | succ n ih => simp [List.replicate_succ, ih]
theorem same_ok : ∀ (n : Nat) (d : D), pd n d = true → m__law_same (n + 1) [d, d] = M.pure (.bl true)
  | n, d, h => by
    show p__law_same (recF b__law_same n) d d = _
    unfold p__law_same
    cases d with
    | non => simp only [in_int, ng_int, mx_nil, mx_cons, o_ne_self, o_eq_self, ls_lst, Pm.pure_bind, bad_bind, raise_bind, opt_some, opt_none, Pm.bind_assoc, Pm.bind_pure, f_bin, f_nil, f_cons, f_tup, f_lst, f_call, f_cb, f_if, f_of, f_ofv, f_tru, f_andB, f_orB, f_notB, f_and, f_or, f_not, f_neg, f_chain, f_sl, f_ono, f_oso, f_items, f_zip, f_enum, f_rng, f_lc, f_lcf, f_lc2, f_in, f_lz, f_app, f_ext, f_seti, f_isi, f_u2, f_u3, f_u4, i_tup, i_lst, z_tup, z_lst, zl_nil, zl_cons, en_tup, en_lst, en_nil, en_cons, x_nil, x_cons, x_map, x_pure, xf_nil, xf_cons, xc_nil, xc_cons, noEx_pure, o_add, o_sub, o_lt, o_le, o_gt, o_ge, o_eq, o_ne, o_mulL, o_mulR, o_div, o_mod, o_addT, o_addL, o_iadd, Pm.ix_tup, ix_lst, Pm.sl_tup, sl_lst, b_len_t, b_len_l, b_abs, b_int_i, b_int_b, b_sum, b_all, b_any, b_tup_l, b_tup_t, b_lst_l, b_lst_t, b_max2, b_max3, b_min2, b_min3, t_bl, t_int, t_tup, t_lst, t_non, a_app, a_ext, bl_bl, decide_true, decide_false, Bool.not_true, Bool.not_false, if_true, if_false, Bool.false_eq_true, for_nil, for_cons, ls_cons, ls_nil, at0, at1, at2, at3, at4, List.cons_append, List.nil_append, List.length_cons, List.length_nil, List.length_map, n_ot, isi_int', isi_bool', isi_tup', isi_str', dn_non, dn_int, dn_tup, dn_str, dn_bl, dnn_non, dnn_int, dnn_tup, dnn_str, dnn_bl, decide_eq_true_eq, fBin, fCons, fTup, fLst, fCall, fCB, fIf, fOf, fTru, fAndB, fOrB, fNotB, fAnd, fOr, fNot, fNeg, fChain, fSl, fOSo, fItems, fZip, fEnum, fRng, fLC, fLCf, fLC2, fIn, fLz, fApp, fExt, fSetI, fIsi]
    | bl b => simp only [in_int, ng_int, mx_nil, mx_cons, o_ne_self, o_eq_self, ls_lst, Pm.pure_bind, bad_bind, raise_bind, opt_some, opt_none, Pm.bind_assoc, Pm.bind_pure, f_bin, f_nil, f_cons, f_tup, f_lst, f_call, f_cb, f_if, f_of, f_ofv, f_tru, f_andB, f_orB, f_notB, f_and, f_or, f_not, f_neg, f_chain, f_sl, f_ono, f_oso, f_items, f_zip, f_enum, f_rng, f_lc, f_lcf, f_lc2, f_in, f_lz, f_app, f_ext, f_seti, f_isi, f_u2, f_u3, f_u4, i_tup, i_lst, z_tup, z_lst, zl_nil, zl_cons, en_tup, en_lst, en_nil, en_cons, x_nil, x_cons, x_map, x_pure, xf_nil, xf_cons, xc_nil, xc_cons, noEx_pure, o_add, o_sub, o_lt, o_le, o_gt, o_ge, o_eq, o_ne, o_mulL, o_mulR, o_div, o_mod, o_addT, o_addL, o_iadd, Pm.ix_tup, ix_lst, Pm.sl_tup, sl_lst, b_len_t, b_len_l, b_abs, b_int_i, b_int_b, b_sum, b_all, b_any, b_tup_l, b_tup_t, b_lst_l, b_lst_t, b_max2, b_max3, b_min2, b_min3, t_bl, t_int, t_tup, t_lst, t_non, a_app, a_ext, bl_bl, decide_true, decide_false, Bool.not_true, Bool.not_false, if_true, if_false, Bool.false_eq_true, for_nil, for_cons, ls_cons, ls_nil, at0, at1, at2, at3, at4, List.cons_append, List.nil_append, List.length_cons, List.length_nil, List.length_map, n_ot, isi_int', isi_bool', isi_tup', isi_str', dn_non, dn_int, dn_tup, dn_str, dn_bl, dnn_non, dnn_int, dnn_tup, dnn_str, dnn_bl, decide_eq_true_eq, fBin, fCons, fTup, fLst, fCall, fCB, fIf, fOf, fTru, fAndB, fOrB, fNotB, fAnd, fOr, fNot, fNeg, fChain, fSl, fOSo, fItems, fZip, fEnum, fRng, fLC, fLCf, fLC2, fIn, fLz, fApp, fExt, fSetI, fIsi, isi_bool (d := .bl b) rfl, isiBool, eq_bl]
    | int i => simp only [in_int, ng_int, mx_nil, mx_cons, o_ne_self, o_eq_self, ls_lst, Pm.pure_bind, bad_bind, raise_bind, opt_some, opt_none, Pm.bind_assoc, Pm.bind_pure, f_bin, f_nil, f_cons, f_tup, f_lst, f_call, f_cb, f_if, f_of, f_ofv, f_tru, f_andB, f_orB, f_notB, f_and, f_or, f_not, f_neg, f_chain, f_sl, f_ono, f_oso, f_items, f_zip, f_enum, f_rng, f_lc, f_lcf, f_lc2, f_in, f_lz, f_app, f_ext, f_seti, f_isi, f_u2, f_u3, f_u4, i_tup, i_lst, z_tup, z_lst, zl_nil, zl_cons, en_tup, en_lst, en_nil, en_cons, x_nil, x_cons, x_map, x_pure, xf_nil, xf_cons, xc_nil, xc_cons, noEx_pure, o_add, o_sub, o_lt, o_le, o_gt, o_ge, o_eq, o_ne, o_mulL, o_mulR, o_div, o_mod, o_addT, o_addL, o_iadd, Pm.ix_tup, ix_lst, Pm.sl_tup, sl_lst, b_len_t, b_len_l, b_abs, b_int_i, b_int_b, b_sum, b_all, b_any, b_tup_l, b_tup_t, b_lst_l, b_lst_t, b_max2, b_max3, b_min2, b_min3, t_bl, t_int, t_tup, t_lst, t_non, a_app, a_ext, bl_bl, decide_true, decide_false, Bool.not_true, Bool.not_false, if_true, if_false, Bool.false_eq_true, for_nil, for_cons, ls_cons, ls_nil, at0, at1, at2, at3, at4, List.cons_append, List.nil_append, List.length_cons, List.length_nil, List.length_map, n_ot, isi_int', isi_bool', isi_tup', isi_str', dn_non, dn_int, dn_tup, dn_str, dn_bl, dnn_non, dnn_int, dnn_tup, dnn_str, dnn_bl, decide_eq_true_eq, fBin, fCons, fTup, fLst, fCall, fCB, fIf, fOf, fTru, fAndB, fOrB, fNotB, fAnd, fOr, fNot, fNeg, fChain, fSl, fOSo, fItems, fZip, fEnum, fRng, fLC, fLCf, fLC2, fIn, fLz, fApp, fExt, fSetI, fIsi, isi_bool (d := .int i) rfl, isi_tup (d := .int i) rfl, isi_str (d := .int i) rfl, isi_int (d := .int i) rfl, isiBool, isiTup, isiStr, isiInt, beq_self_eq_true]
    | str x => simp only [in_int, ng_int, mx_nil, mx_cons, o_ne_self, o_eq_self, ls_lst, Pm.pure_bind, bad_bind, raise_bind, opt_some, opt_none, Pm.bind_assoc, Pm.bind_pure, f_bin, f_nil, f_cons, f_tup, f_lst, f_call, f_cb, f_if, f_of, f_ofv, f_tru, f_andB, f_orB, f_notB, f_and, f_or, f_not, f_neg, f_chain, f_sl, f_ono, f_oso, f_items, f_zip, f_enum, f_rng, f_lc, f_lcf, f_lc2, f_in, f_lz, f_app, f_ext, f_seti, f_isi, f_u2, f_u3, f_u4, i_tup, i_lst, z_tup, z_lst, zl_nil, zl_cons, en_tup, en_lst, en_nil, en_cons, x_nil, x_cons, x_map, x_pure, xf_nil, xf_cons, xc_nil, xc_cons, noEx_pure, o_add, o_sub, o_lt, o_le, o_gt, o_ge, o_eq, o_ne, o_mulL, o_mulR, o_div, o_mod, o_addT, o_addL, o_iadd, Pm.ix_tup, ix_lst, Pm.sl_tup, sl_lst, b_len_t, b_len_l, b_abs, b_int_i, b_int_b, b_sum, b_all, b_any, b_tup_l, b_tup_t, b_lst_l, b_lst_t, b_max2, b_max3, b_min2, b_min3, t_bl, t_int, t_tup, t_lst, t_non, a_app, a_ext, bl_bl, decide_true, decide_false, Bool.not_true, Bool.not_false, if_true, if_false, Bool.false_eq_true, for_nil, for_cons, ls_cons, ls_nil, at0, at1, at2, at3, at4, List.cons_append, List.nil_append, List.length_cons, List.length_nil, List.length_map, n_ot, isi_int', isi_bool', isi_tup', isi_str', dn_non, dn_int, dn_tup, dn_str, dn_bl, dnn_non, dnn_int, dnn_tup, dnn_str, dnn_bl, decide_eq_true_eq, fBin, fCons, fTup, fLst, fCall, fCB, fIf, fOf, fTru, fAndB, fOrB, fNotB, fAnd, fOr, fNot, fNeg, fChain, fSl, fOSo, fItems, fZip, fEnum, fRng, fLC, fLCf, fLC2, fIn, fLz, fApp, fExt, fSetI, fIsi, isi_bool (d := .str x) rfl, isi_tup (d := .str x) rfl, isi_str (d := .str x) rfl, isiBool, isiTup, isiStr, eq_str]
    | tup l =>
      cases n with
      | zero => rw [pd_tup0] at h; cases h
      | succ n =>
        rw [pd_tup, List.all_eq_true] at h
        have hm : mapX (fun x => recF b__law_same (n + 1) [x, x]) l = M.pure (l.map fun _ => .bl true) := mapX_of fun x hx => same_ok n x (h x hx)
        simp only [in_int, ng_int, mx_nil, mx_cons, o_ne_self, o_eq_self, ls_lst, Pm.pure_bind, bad_bind, raise_bind, opt_some, opt_none, Pm.bind_assoc, Pm.bind_pure, f_bin, f_nil, f_cons, f_tup, f_lst, f_call, f_cb, f_if, f_of, f_ofv, f_tru, f_andB, f_orB, f_notB, f_and, f_or, f_not, f_neg, f_chain, f_sl, f_ono, f_oso, f_items, f_zip, f_enum, f_rng, f_lc, f_lcf, f_lc2, f_in, f_lz, f_app, f_ext, f_seti, f_isi, f_u2, f_u3, f_u4, i_tup, i_lst, z_tup, z_lst, zl_nil, zl_cons, en_tup, en_lst, en_nil, en_cons, x_nil, x_cons, x_map, x_pure, xf_nil, xf_cons, xc_nil, xc_cons, noEx_pure, o_add, o_sub, o_lt, o_le, o_gt, o_ge, o_eq, o_ne, o_mulL, o_mulR, o_div, o_mod, o_addT, o_addL, o_iadd, Pm.ix_tup, ix_lst, Pm.sl_tup, sl_lst, b_len_t, b_len_l, b_abs, b_int_i, b_int_b, b_sum, b_all, b_any, b_tup_l, b_tup_t, b_lst_l, b_lst_t, b_max2, b_max3, b_min2, b_min3, t_bl, t_int, t_tup, t_lst, t_non, a_app, a_ext, bl_bl, decide_true, decide_false, Bool.not_true, Bool.not_false, if_true, if_false, Bool.false_eq_true, for_nil, for_cons, ls_cons, ls_nil, at0, at1, at2, at3, at4, List.cons_append, List.nil_append, List.length_cons, List.length_nil, List.length_map, n_ot, isi_int', isi_bool', isi_tup', isi_str', dn_non, dn_int, dn_tup, dn_str, dn_bl, dnn_non, dnn_int, dnn_tup, dnn_str, dnn_bl, decide_eq_true_eq, fBin, fCons, fTup, fLst, fCall, fCB, fIf, fOf, fTru, fAndB, fOrB, fNotB, fAnd, fOr, fNot, fNeg, fChain, fSl, fOSo, fItems, fZip, fEnum, fRng, fLC, fLCf, fLC2, fIn, fLz, fApp, fExt, fSetI, fIsi, isi_bool (d := .tup l) rfl, isi_tup (d := .tup l) rfl, isiBool, isiTup, zipL_self, beq_self_eq_true]
        rw [hm]
        simp only [in_int, ng_int, mx_nil, mx_cons, o_ne_self, o_eq_self, ls_lst, Pm.pure_bind, bad_bind, raise_bind, opt_some, opt_none, Pm.bind_assoc, Pm.bind_pure, f_bin, f_nil, f_cons, f_tup, f_lst, f_call, f_cb, f_if, f_of, f_ofv, f_tru, f_andB, f_orB, f_notB, f_and, f_or, f_not, f_neg, f_chain, f_sl, f_ono, f_oso, f_items, f_zip, f_enum, f_rng, f_lc, f_lcf, f_lc2, f_in, f_lz, f_app, f_ext, f_seti, f_isi, f_u2, f_u3, f_u4, i_tup, i_lst, z_tup, z_lst, zl_nil, zl_cons, en_tup, en_lst, en_nil, en_cons, x_nil, x_cons, x_map, x_pure, xf_nil, xf_cons, xc_nil, xc_cons, noEx_pure, o_add, o_sub, o_lt, o_le, o_gt, o_ge, o_eq, o_ne, o_mulL, o_mulR, o_div, o_mod, o_addT, o_addL, o_iadd, Pm.ix_tup, ix_lst, Pm.sl_tup, sl_lst, b_len_t, b_len_l, b_abs, b_int_i, b_int_b, b_sum, b_all, b_any, b_tup_l, b_tup_t, b_lst_l, b_lst_t, b_max2, b_max3, b_min2, b_min3, t_bl, t_int, t_tup, t_lst, t_non, a_app, a_ext, bl_bl, decide_true, decide_false, Bool.not_true, Bool.not_false, if_true, if_false, Bool.false_eq_true, for_nil, for_cons, ls_cons, ls_nil, at0, at1, at2, at3, at4, List.cons_append, List.nil_append, List.length_cons, List.length_nil, List.length_map, n_ot, isi_int', isi_bool', isi_tup', isi_str', dn_non, dn_int, dn_tup, dn_str, dn_bl, dnn_non, dnn_int, dnn_tup, dnn_str, dnn_bl, decide_eq_true_eq, fBin, fCons, fTup, fLst, fCall, fCB, fIf, fOf, fTru, fAndB, fOrB, fNotB, fAnd, fOr, fNot, fNeg, fChain, fSl, fOSo, fItems, fZip, fEnum, fRng, fLC, fLCf, fLC2, fIn, fLz, fApp, fExt, fSetI, fIsi, List.map_const', blsOf_rep, Option.map_some, all_rep]
    | _ => cases n <;> simp [pd] at h
theorem same8 {d : D} (h : pd 7 d = true) : m__law_same 8 [d, d] = M.pure (.bl true) := same_ok 7 d h
theorem round_eq {a b : Int} (h1 : 0 < b) (h2 : b < 500000000) : m__law_round [.int a, .int b] = M.pure (.int (rnd a b)) := rounded_eq h1 h2
/-! ### pictures -/
def cells (cs : List C4) : D := .tup (cs.map col)
theorem dr_mapX {α : Type} {f : α → M D} {P : D → Prop} (n : Nat) : ∀ (xs : List α), (∀ x ∈ xs, Dr n (f x) P) → Dr (n * xs.length) (mapX f xs) (fun l => l.length = xs.length ∧ ∀ y ∈ l, P y)
  | [], _ => Dr.pure ⟨rfl, fun y h => nomatch h⟩
  | x :: xs, h => by
    have e : n * (x :: xs).length = n + (n * xs.length + 0) := by rw [List.length_cons, Nat.mul_succ]; omega
    rw [e]
    refine Dr.bind (h x List.mem_cons_self).noEx fun a ha => Dr.bind (dr_mapX n xs fun y hy => h y (List.mem_cons_of_mem _ hy)) fun l ⟨h1, h2⟩ => Dr.pure ⟨by simp [h1], fun y hy => ?_⟩
    rcases List.mem_cons.mp hy with rfl | hy
    · exact ha
    · exact h2 y hy
/-- so many draws in a row -/
theorem dr_range {m : Nat → M D} {P : D → Prop} (n k : Nat) (h : ∀ i, Dr n (m i) P) : Dr (n * k) (mapX m (List.range k)) (fun l => l.length = k ∧ ∀ y ∈ l, P y) := by
  have := dr_mapX (f := m) (P := P) n (List.range k) fun _ _ => h _
  rwa [List.length_range] at this
theorem cols_of : ∀ {ds : List D}, (∀ d ∈ ds, ∃ c, d = col c ∧ okc c) → ∃ cs : List C4, ds = cs.map col ∧ ∀ c ∈ cs, okc c
  | [], _ => ⟨[], rfl, fun c h => (nomatch h)⟩
  | d :: ds, h => by
    obtain ⟨c, h1, h2⟩ := h d List.mem_cons_self
    obtain ⟨cs, h3, h4⟩ := cols_of fun x hx => h x (List.mem_cons_of_mem _ hx)
    refine ⟨c :: cs, by rw [h1, h3]; rfl, fun x hx => ?_⟩
    rcases List.mem_cons.mp hx with rfl | hx
    · exact h2
    · exact h4 x hx
theorem dr_picture {ns : List Int} {w h m : Int} (hn : ns.length ≤ 63) (hw : 1 ≤ w ∧ w ≤ 99) (hh : 1 ≤ h ∧ h ≤ 99) (hwh : w * h ≤ 1000) (hm : 1 ≤ m ∧ m ≤ 100) : Dr (14 * m.toNat + 2 * (w * h).toNat) (m__law_drawn_picture [.scr ns, .town, .int w, .int h, .int m]) (fun d => ∃ cs, d = .tup [.int w, .int h, cells cs] ∧ (∀ c ∈ cs, okc c) ∧ (cs.length : Int) = w * h) := by
  show Dr _ (p__law_drawn_picture _ _ _ _ _) _
  unfold p__law_drawn_picture
  have hp : 0 < w * h := Int.mul_pos (by omega) (by omega)
  simp (config := { maxSteps := 3000000 }) (disch := first | omega | (simp only [List.length_map, List.length_cons, List.length_nil, List.length_append, List.length_replicate, List.length_set, List.length_range, nts_len, List.length_take, List.length_drop]; omega) | kernel_rfl) only [in_int, ng_int, mx_nil, mx_cons, o_ne_self, o_eq_self, ls_lst, Pm.pure_bind, bad_bind, raise_bind, opt_some, opt_none, Pm.bind_assoc, Pm.bind_pure, f_bin, f_nil, f_cons, f_tup, f_lst, f_call, f_cb, f_if, f_of, f_ofv, f_tru, f_andB, f_orB, f_notB, f_and, f_or, f_not, f_neg, f_chain, f_sl, f_ono, f_oso, f_items, f_zip, f_enum, f_rng, f_lc, f_lcf, f_lc2, f_in, f_lz, f_app, f_ext, f_seti, f_isi, f_u2, f_u3, f_u4, i_tup, i_lst, z_tup, z_lst, zl_nil, zl_cons, en_tup, en_lst, en_nil, en_cons, x_nil, x_cons, x_map, x_pure, xf_nil, xf_cons, xc_nil, xc_cons, noEx_pure, o_add, o_sub, o_lt, o_le, o_gt, o_ge, o_eq, o_ne, o_mulL, o_mulR, o_div, o_mod, o_addT, o_addL, o_iadd, Pm.ix_tup, ix_lst, Pm.sl_tup, sl_lst, b_len_t, b_len_l, b_abs, b_int_i, b_int_b, b_sum, b_all, b_any, b_tup_l, b_tup_t, b_lst_l, b_lst_t, b_max2, b_max3, b_min2, b_min3, t_bl, t_int, t_tup, t_lst, t_non, a_app, a_ext, bl_bl, decide_true, decide_false, Bool.not_true, Bool.not_false, if_true, if_false, Bool.false_eq_true, for_nil, for_cons, ls_cons, ls_nil, at0, at1, at2, at3, at4, List.cons_append, List.nil_append, List.length_cons, List.length_nil, List.length_map, n_ot, isi_int', isi_bool', isi_tup', isi_str', dn_non, dn_int, dn_tup, dn_str, dn_bl, dnn_non, dnn_int, dnn_tup, dnn_str, dnn_bl, decide_eq_true_eq, fBin, fCons, fTup, fLst, fCall, fCB, fIf, fOf, fTru, fAndB, fOrB, fNotB, fAnd, fOr, fNot, fNeg, fChain, fSl, fOSo, fItems, fZip, fEnum, fRng, fLC, fLCf, fLC2, fIn, fLz, fApp, fExt, fSetI, fIsi, rng_A (j := m) (by omega) (by omega)]
  refine Dr.bind (dr_range 14 m.toNat fun _ => dr_colour hn) fun l ⟨hl, hc⟩ => ?_
  have hl0 : l ≠ [] := fun z => by rw [z] at hl; simp at hl; omega
  simp (config := { maxSteps := 3000000 }) (disch := first | omega | (simp only [List.length_map, List.length_cons, List.length_nil, List.length_append, List.length_replicate, List.length_set, List.length_range, nts_len, List.length_take, List.length_drop]; omega) | kernel_rfl) only [in_int, ng_int, mx_nil, mx_cons, o_ne_self, o_eq_self, ls_lst, Pm.pure_bind, bad_bind, raise_bind, opt_some, opt_none, Pm.bind_assoc, Pm.bind_pure, f_bin, f_nil, f_cons, f_tup, f_lst, f_call, f_cb, f_if, f_of, f_ofv, f_tru, f_andB, f_orB, f_notB, f_and, f_or, f_not, f_neg, f_chain, f_sl, f_ono, f_oso, f_items, f_zip, f_enum, f_rng, f_lc, f_lcf, f_lc2, f_in, f_lz, f_app, f_ext, f_seti, f_isi, f_u2, f_u3, f_u4, i_tup, i_lst, z_tup, z_lst, zl_nil, zl_cons, en_tup, en_lst, en_nil, en_cons, x_nil, x_cons, x_map, x_pure, xf_nil, xf_cons, xc_nil, xc_cons, noEx_pure, o_add, o_sub, o_lt, o_le, o_gt, o_ge, o_eq, o_ne, o_mulL, o_mulR, o_div, o_mod, o_addT, o_addL, o_iadd, Pm.ix_tup, ix_lst, Pm.sl_tup, sl_lst, b_len_t, b_len_l, b_abs, b_int_i, b_int_b, b_sum, b_all, b_any, b_tup_l, b_tup_t, b_lst_l, b_lst_t, b_max2, b_max3, b_min2, b_min3, t_bl, t_int, t_tup, t_lst, t_non, a_app, a_ext, bl_bl, decide_true, decide_false, Bool.not_true, Bool.not_false, if_true, if_false, Bool.false_eq_true, for_nil, for_cons, ls_cons, ls_nil, at0, at1, at2, at3, at4, List.cons_append, List.nil_append, List.length_cons, List.length_nil, List.length_map, n_ot, isi_int', isi_bool', isi_tup', isi_str', dn_non, dn_int, dn_tup, dn_str, dn_bl, dnn_non, dnn_int, dnn_tup, dnn_str, dnn_bl, decide_eq_true_eq, fBin, fCons, fTup, fLst, fCall, fCB, fIf, fOf, fTru, fAndB, fOrB, fNotB, fAnd, fOr, fNot, fNeg, fChain, fSl, fOSo, fItems, fZip, fEnum, fRng, fLC, fLCf, fLC2, fIn, fLz, fApp, fExt, fSetI, fIsi, rng_A (j := w * h) (by omega) (by omega)]
  refine Dr.then _ (dr_range 2 (w * h).toNat fun _ => dr_pick hn hl0) (by omega) fun r ⟨hr, hc2⟩ => ?_
  obtain ⟨cs, rfl, hcs⟩ := cols_of fun y hy => hc y (hc2 y hy)
  exact Dr.pure ⟨cs, rfl, hcs, by rw [List.length_map] at hr; omega⟩
/-! colours as data -/
theorem u4_col {α : Type} (c : C4) (k : D → D → D → D → M α) : fU4 (col c) k = k (.int c.1) (.int c.2.1) (.int c.2.2.1) (.int c.2.2.2) := rfl
theorem ix_col0 (c : C4) : ixD (col c) (.int 0) = some (.int c.1) := rfl
theorem ix_col1 (c : C4) : ixD (col c) (.int 1) = some (.int c.2.1) := rfl
theorem ix_col2 (c : C4) : ixD (col c) (.int 2) = some (.int c.2.2.1) := rfl
theorem ix_col3 (c : C4) : ixD (col c) (.int 3) = some (.int c.2.2.2) := rfl
theorem sl_col3 (c : C4) : slD (col c) none (some 3) = some (.tup [.int c.1, .int c.2.1, .int c.2.2.1]) := rfl
abbrev white : C4 := (255, 255, 255, 255)
theorem white_col : D.tup [.int 255, .int 255, .int 255, .int 255] = col white := rfl
theorem ok_white : okc white := by simp only [okc]; omega
def greyC (c : C4) : C4 := (greyI c.1 c.2.1 c.2.2.1, greyI c.1 c.2.1 c.2.2.1, greyI c.1 c.2.1 c.2.2.1, c.2.2.2)
theorem grey_col (c : C4) : m_grey [col c] = M.pure (col (greyC c)) := grey_eq _ _ _ _
theorem ok_over {t b : C4} (ht : okc t) (hb : okc b) : okc (overC t b) := by
  obtain ⟨a, b', c, d⟩ := t
  obtain ⟨e, f, g, h⟩ := b
  simp only [okc] at ht hb
  have hm := mul_bd (x := h) (y := 255 - d) ⟨by omega, by omega⟩ ⟨by omega, by omega⟩
  unfold overC
  simp only
  generalize hl : h * (255 - d) = low at hm ⊢
  have hd : low ≤ 255 * (255 - d) := by
    rw [← hl]
    exact Int.mul_le_mul_of_nonneg_right hb.2.2.2.2 (by omega)
  split
  · simp only [okc]; omega
  · rename_i h0
    have hp : 0 < 255 * d + low := by omega
    have key : ∀ x y : Int, 0 ≤ x → x ≤ 255 → 0 ≤ y → y ≤ 255 → 0 ≤ rnd (255 * d * x + low * y) (255 * d + low) ∧ rnd (255 * d * x + low * y) (255 * d + low) ≤ 255 := fun x y h1 h2 h3 h4 => by
      have p1 : 0 ≤ 255 * d * x := Int.mul_nonneg (by omega) h1
      have p2 : 0 ≤ low * y := Int.mul_nonneg hm.1 h3
      have p3 : 255 * d * x ≤ 255 * d * 255 := Int.mul_le_mul_of_nonneg_left h2 (by omega)
      have p4 : low * y ≤ low * 255 := Int.mul_le_mul_of_nonneg_left h4 hm.1
      unfold rnd
      constructor
      · exact Int.ediv_nonneg (by omega) (by omega)
      · have : (2 * (255 * d * x + low * y) + (255 * d + low)) / (2 * (255 * d + low)) < 256 := Int.ediv_lt_of_lt_mul (by omega) (by omega)
        omega
    refine ⟨key _ _ ht.1.1 ht.1.2 hb.1.1 hb.1.2, key _ _ ht.2.1.1 ht.2.1.2 hb.2.1.1 hb.2.1.2, key _ _ ht.2.2.1.1 ht.2.2.1.2 hb.2.2.1.1 hb.2.2.1.2, ?_⟩
    simp only
    unfold rnd
    omega
theorem pd_col (n : Nat) (c : C4) : pd (n + 1) (col c) = true := by unfold col; rw [pd_tup]; simp [pd_int]
theorem okd_col (n : Nat) (c : C4) : okd (n + 1) (col c) = true := by unfold col; rw [okd_tup]; simp [okd_int]
theorem pd_cells (n : Nat) (cs : List C4) : pd (n + 2) (cells cs) = true := by
  unfold cells
  rw [pd_tup, List.all_eq_true]
  intro x hx
  obtain ⟨c, _, rfl⟩ := List.mem_map.mp hx
  exact pd_col n c
theorem okd_cells (n : Nat) (cs : List C4) : okd (n + 2) (cells cs) = true := by
  unfold cells
  rw [okd_tup, List.all_eq_true]
  intro x hx
  obtain ⟨c, _, rfl⟩ := List.mem_map.mp hx
  exact okd_col n c
theorem pd_ints (n : Nat) (ns : List Int) : pd (n + 1) (.tup (ns.map D.int)) = true := by
  rw [pd_tup, List.all_eq_true]
  intro x hx
  obtain ⟨c, _, rfl⟩ := List.mem_map.mp hx
  exact pd_int n c
end Pm
end
noncomputable section
namespace Pm
open PySem
/-! ### while, by a plain function -/
section
variable {σ τ α : Type}
theorem while_zero (c : σ → M Bool) (b : σ → (σ → M α) → M α) (st : σ) (k : σ → M α) : fWhile c b 0 st k = M.bad := rfl
theorem while_succ (c : σ → M Bool) (b : σ → (σ → M α) → M α) (n : Nat) (st : σ) (k : σ → M α) : fWhile c b (n + 1) st k = fIf (c st) (b st fun st' => fWhile c b n st' k) (k st) := rfl
/-- so many turns, each told -/
theorem while_count {c : σ → M Bool} {b : σ → (σ → M α) → M α} (T : Nat → σ) (m : Nat) (h1 : ∀ i, i < m → c (T i) = M.pure true) (h2 : ∀ i, i < m → ∀ k, b (T i) k = k (T (i + 1))) (h3 : c (T m) = M.pure false) (k : σ → M α) : ∀ (j i : Nat) (n : Nat), i + j = m → j < n → fWhile c b n (T i) k = k (T m)
  | j, i, 0, _, h => absurd h (Nat.not_lt_zero _)
  | 0, i, n + 1, e, _ => by
    have e : i = m := by omega
    subst e
    rw [while_succ, h3, f_if]; rfl
  | j + 1, i, n + 1, e, h => by
    rw [while_succ, h1 i (by omega), f_if, if_pos rfl, h2 i (by omega)]
    exact while_count T m h1 h2 h3 k j (i + 1) n (by omega) (by omega)
/-- turn by turn while p; none: the answer F -/
def whlO (p : τ → Bool) (g : τ → Option τ) : Nat → τ → Option τ
  | 0, st => some st
  | n + 1, st => if p st = true then (match g st with | some st' => whlO p g n st' | none => none) else some st
theorem while_opt {c : σ → M Bool} {b : σ → (σ → M α) → M α} {S : τ → σ} {p : τ → Bool} {g : τ → Option τ} {F : M α} (I : τ → Prop) (m : τ → Nat) (hc : ∀ st, I st → c (S st) = M.pure (p st))
    (hb : ∀ st, I st → p st = true → (∀ st', g st = some st' → I st' ∧ m st' < m st) ∧ ∀ k, b (S st) k = match g st with | some st' => k (S st') | none => F) (hm : ∀ st, I st → m st = 0 → p st = false) (k : σ → M α) :
    ∀ (N n : Nat) (st : τ), I st → m st ≤ N → N < n → fWhile c b n (S st) k = match whlO p g N st with | some st' => k (S st') | none => F
  | N, 0, st, _, _, h => absurd h (Nat.not_lt_zero _)
  | 0, n + 1, st, hI, h0, _ => by rw [while_succ, hc st hI, hm st hI (by omega), f_if]; rfl
  | N + 1, n + 1, st, hI, hN, hn => by
    rw [while_succ, hc st hI, f_if]
    unfold whlO
    cases q : p st with
    | false => rfl
    | true =>
      obtain ⟨h1, h2⟩ := hb st hI q
      rw [if_pos rfl, if_pos rfl, h2]
      cases q2 : g st with
      | none => rfl
      | some st' =>
        obtain ⟨h3, h4⟩ := h1 st' q2
        exact while_opt I m hc hb hm k N n st' h3 (by omega) (by omega)
theorem whlO_inv {p : τ → Bool} {g : τ → Option τ} (I : τ → Prop) (h : ∀ st st', I st → p st = true → g st = some st' → I st') : ∀ (N : Nat) (st st' : τ), I st → whlO p g N st = some st' → I st'
  | 0, st, st', hI, e => by cases e; exact hI
  | N + 1, st, st', hI, e => by
    unfold whlO at e
    split at e
    · rename_i hp
      split at e
      · rename_i st1 q
        exact whlO_inv I h N st1 st' (h st st1 hI hp q) e
      · cases e
    · cases e; exact hI
theorem dr_while {c : σ → M Bool} {b : σ → (σ → M α) → M α} {S : τ → σ} {p : τ → Bool} {P : α → Prop} (I : τ → Prop) (m : τ → Nat) (nd j0 : Nat) (hc : ∀ st, I st → c (S st) = M.pure (p st))
    (hb : ∀ st j (k : σ → M α), I st → p st = true → (∀ st', I st' → m st' < m st → Dr j (k (S st')) P) → Dr (nd + j) (b (S st) k) P) (hm : ∀ st, I st → m st = 0 → p st = false) (k : σ → M α) (hk : ∀ st, I st → p st = false → Dr j0 (k (S st)) P) :
    ∀ (N n : Nat) (st : τ), I st → m st ≤ N → N < n → Dr (nd * N + j0) (fWhile c b n (S st) k) P
  | N, 0, st, _, _, h => absurd h (Nat.not_lt_zero _)
  | 0, n + 1, st, hI, h0, _ => by
    have q := hm st hI (by omega)
    rw [while_succ, hc st hI, q, f_if, Nat.mul_zero, Nat.zero_add]
    exact hk st hI q
  | N + 1, n + 1, st, hI, hN, hn => by
    rw [while_succ, hc st hI, f_if]
    cases q : p st with
    | false => exact (hk st hI q).more (by rw [Nat.mul_succ]; omega)
    | true =>
      rw [if_pos rfl]
      have := hb st (nd * N + j0) (fun st' => fWhile c b n st' k) hI q fun st' h1 h2 => dr_while I m nd j0 hc hb hm k hk N n st' h1 (by omega) (by omega)
      exact this.more (by rw [Nat.mul_succ]; omega)
end
/-! ### bytes -/
theorem nts_nil : nts [] = [] := rfl
theorem nts_cons (n : Int) (ns : List Int) : nts (n :: ns) = .int n :: nts ns := rfl
theorem nts_app (a b : List Int) : nts a ++ nts b = nts (a ++ b) := (List.map_append ..).symm
theorem at_nts {ns : List Int} {i : Int} {j : Nat} (hi : i = j) (h : j < ns.length) : L2.atI (nts ns) i = some (.int ns[j]) := at_map (E := D.int) hi (List.getElem?_eq_getElem h)
theorem cut_nts (ns : List Int) (i j : Option Int) : cutL (nts ns) i j = nts (cutL ns i j) := cut_map D.int ns i j
theorem rep_nts (a : Int) (k : Int) (h0 : 0 ≤ k) (h : k ≤ 10000) : mulD (.lst [.int a]) (.int k) = some (.lst (nts (List.replicate k.toNat a))) := by
  have e : mulD (.lst [.int a]) (.int k) = some (.lst (List.replicate k.toNat [D.int a]).flatten) := if_pos ⟨by omega, by omega, by rw [sizeIs]; simp; omega⟩
  rw [e]
  congr 2
  unfold nts
  induction k.toNat with
  | zero => rfl
  | succ n ih => rw [List.replicate_succ, List.flatten_cons, ih, List.replicate_succ]; rfl
theorem pd_nts' (n : Nat) (ns : List Int) : pd (n + 1) (.tup (nts ns)) = true := pd_ints n ns
end Pm
end
noncomputable section
namespace Pm
open PySem
def p__law_over (_law_top_ : D) (_law_bottom_ : D) : M D :=
  (M.bind (fTup (fCons (fBin mulD (M.pure (D.int 255)) (fBin ixD (M.pure _law_top_) (M.pure (D.int 3)))) (fCons (fBin mulD (fBin ixD (M.pure _law_bottom_) (M.pure (D.int 3))) (fBin subD (M.pure (D.int 255)) (fBin ixD (M.pure _law_top_) (M.pure (D.int 3))))) fNil))) fun it1_ => (fU2 it1_ fun _law_high_ _law_low_ => 
  (fIf (fOf (fBin eqD (fBin addD (M.pure _law_high_) (M.pure _law_low_)) (M.pure (D.int 0))))
  (fTup (fCons (M.pure (D.int 0)) (fCons (M.pure (D.int 0)) (fCons (M.pure (D.int 0)) (fCons (M.pure (D.int 0)) fNil)))))
  (M.bind (fLC (fZip (fCons (fSl (M.pure _law_top_) fONo (fOSo (M.pure (D.int 3)))) (fCons (fSl (M.pure _law_bottom_) fONo (fOSo (M.pure (D.int 3)))) fNil))) fun it2_ => (fU2 it2_ fun _law_one_ _law_other_ => (fCall m__law_round (fCons (fBin addD (fBin mulD (M.pure _law_high_) (M.pure _law_one_)) (fBin mulD (M.pure _law_low_) (M.pure _law_other_))) (fCons (fBin addD (M.pure _law_high_) (M.pure _law_low_)) fNil))))) fun _law_parts_ =>
  (fBin addD (fCB tupF (fCons (M.pure _law_parts_) fNil)) (fTup (fCons (fCall m__law_round (fCons (fBin addD (M.pure _law_high_) (M.pure _law_low_)) (fCons (M.pure (D.int 255)) fNil))) fNil)))))))
def m__law_over : Mf := fun ds => match ds with
  | [_law_top_, _law_bottom_] => p__law_over _law_top_ _law_bottom_
  | _ => M.bad
def p__law_modes : M D :=
  (fLst (fCons (M.pure (D.str "plain")) (fCons (M.pure (D.str "times")) (fCons (M.pure (D.str "screen")) (fCons (M.pure (D.str "dark")) (fCons (M.pure (D.str "light")) (fCons (M.pure (D.str "add")) (fCons (M.pure (D.str "less")) (fCons (M.pure (D.str "apart")) fNil)))))))))
def m__law_modes : Mf := fun ds => match ds with
  | [] => p__law_modes 
  | _ => M.bad
def p__law_mode (_law_word_ : D) (_law_p_ : D) (_law_q_ : D) : M D :=
  (M.bind (fDk ["plain", "times", "dark", "light"] (fCons (M.pure _law_p_) (fCons (fCall m__law_round (fCons (fBin mulD (M.pure _law_p_) (M.pure _law_q_)) (fCons (M.pure (D.int 255)) fNil))) (fCons (fCB minF (fCons (M.pure _law_p_) (fCons (M.pure _law_q_) fNil))) (fCons (fCB maxF (fCons (M.pure _law_p_) (fCons (M.pure _law_q_) fNil))) fNil))))) fun _law_table_ =>
  (M.bind (fUpdK _law_table_ (fDk ["screen", "add"] (fCons (fBin subD (M.pure (D.int 255)) (fCall m__law_round (fCons (fBin mulD (fBin subD (M.pure (D.int 255)) (M.pure _law_p_)) (fBin subD (M.pure (D.int 255)) (M.pure _law_q_))) (fCons (M.pure (D.int 255)) fNil)))) (fCons (fCB minF (fCons (M.pure (D.int 255)) (fCons (fBin addD (M.pure _law_p_) (M.pure _law_q_)) fNil))) fNil)))) fun _law_table_ =>
  (M.bind (fUpdK _law_table_ (fDk ["less", "apart"] (fCons (fCB maxF (fCons (M.pure (D.int 0)) (fCons (fBin subD (M.pure _law_q_) (M.pure _law_p_)) fNil))) (fCons (fBin subD (fCB maxF (fCons (M.pure _law_p_) (fCons (M.pure _law_q_) fNil))) (fCB minF (fCons (M.pure _law_p_) (fCons (M.pure _law_q_) fNil)))) fNil)))) fun _law_table_ =>
  (fBin dgD (M.pure _law_table_) (M.pure _law_word_)))))
def m__law_mode : Mf := fun ds => match ds with
  | [_law_word_, _law_p_, _law_q_] => p__law_mode _law_word_ _law_p_ _law_q_
  | _ => M.bad
def l0__law_blended (_law_top_ : D) (_law_bottom_ : D) (_law_word_ : D) (it1_ : D) (_law_parts_ : D) (k0_ : D → M D) : M D :=
  (fU2 it1_ fun _law_p_ _law_q_ => (M.bind (fApp _law_parts_ (fCall m__law_round (fCons (fBin addD (fBin mulD (fBin subD (M.pure (D.int 255)) (fBin ixD (M.pure _law_bottom_) (M.pure (D.int 3)))) (M.pure _law_p_)) (fBin mulD (fBin ixD (M.pure _law_bottom_) (M.pure (D.int 3))) (fCall m__law_mode (fCons (M.pure _law_word_) (fCons (M.pure _law_p_) (fCons (M.pure _law_q_) fNil)))))) (fCons (M.pure (D.int 255)) fNil)))) fun _law_parts_ =>
  (k0_ _law_parts_)))
def p__law_blended (_law_top_ : D) (_law_bottom_ : D) (_law_word_ : D) : M D :=
  (M.bind (fLst fNil) fun _law_parts_ =>
  (M.bind (fZip (fCons (fSl (M.pure _law_top_) fONo (fOSo (M.pure (D.int 3)))) (fCons (fSl (M.pure _law_bottom_) fONo (fOSo (M.pure (D.int 3)))) fNil))) fun xs2_ => fFor (l0__law_blended _law_top_ _law_bottom_ _law_word_) xs2_ _law_parts_ fun _law_parts_ =>
  (fCall m__law_over (fCons (fBin addD (fCB tupF (fCons (M.pure _law_parts_) fNil)) (fTup (fCons (fBin ixD (M.pure _law_top_) (M.pure (D.int 3))) fNil))) (fCons (M.pure _law_bottom_) fNil)))))
def m__law_blended : Mf := fun ds => match ds with
  | [_law_top_, _law_bottom_, _law_word_] => p__law_blended _law_top_ _law_bottom_ _law_word_
  | _ => M.bad
def p_must_be_mode (mode_ : D) : M D :=
  (fIf (fOf (fBin ninD (M.pure mode_) (M.pure ((.tup [(.str "plain"), (.str "times"), (.str "screen"), (.str "dark"), (.str "light"), (.str "add"), (.str "less"), (.str "apart")]) : D))))
  (M.raise "BadMode")
  (M.pure D.non))
def m_must_be_mode : Mf := fun ds => match ds with
  | [mode_] => p_must_be_mode mode_
  | _ => M.bad
def p_told_by (mode_ : D) (top_ : D) (bottom_ : D) : M D :=
  (fIf (fOf (fBin eqD (M.pure mode_) (M.pure (D.str "times"))))
  (fCall m_rounded (fCons (fBin mulD (M.pure top_) (M.pure bottom_)) (fCons (M.pure (D.int 255)) fNil)))
  (fIf (fOf (fBin eqD (M.pure mode_) (M.pure (D.str "screen"))))
  (fBin subD (M.pure (D.int 255)) (fCall m_rounded (fCons (fBin mulD (fBin subD (M.pure (D.int 255)) (M.pure top_)) (fBin subD (M.pure (D.int 255)) (M.pure bottom_))) (fCons (M.pure (D.int 255)) fNil))))
  (fIf (fOf (fBin eqD (M.pure mode_) (M.pure (D.str "dark"))))
  (fCB minF (fCons (M.pure top_) (fCons (M.pure bottom_) fNil)))
  (fIf (fOf (fBin eqD (M.pure mode_) (M.pure (D.str "light"))))
  (fCB maxF (fCons (M.pure top_) (fCons (M.pure bottom_) fNil)))
  (fIf (fOf (fBin eqD (M.pure mode_) (M.pure (D.str "add"))))
  (fCB minF (fCons (M.pure (D.int 255)) (fCons (fBin addD (M.pure top_) (M.pure bottom_)) fNil)))
  (fIf (fOf (fBin eqD (M.pure mode_) (M.pure (D.str "less"))))
  (fCB maxF (fCons (M.pure (D.int 0)) (fCons (fBin subD (M.pure bottom_) (M.pure top_)) fNil)))
  (fIf (fOf (fBin eqD (M.pure mode_) (M.pure (D.str "apart")))) (fCB absF (fCons (fBin subD (M.pure top_) (M.pure bottom_)) fNil)) (M.pure top_))))))))
def m_told_by : Mf := fun ds => match ds with
  | [mode_, top_, bottom_] => p_told_by mode_ top_ bottom_
  | _ => M.bad
def l0_blended (top_ : D) (bottom_ : D) (mode_ : D) (cover_ : D) (it1_ : D) (parts_ : D) (k0_ : D → M D) : M D :=
  (fU2 it1_ fun left_ right_ => (M.bind (fApp parts_ (fCall m_rounded (fCons (fBin addD (fBin mulD (fBin subD (M.pure (D.int 255)) (M.pure cover_)) (M.pure left_)) (fBin mulD (M.pure cover_) (fCall m_told_by (fCons (M.pure mode_) (fCons (M.pure left_) (fCons (M.pure right_) fNil)))))) (fCons (M.pure (D.int 255)) fNil)))) fun parts_ =>
  (k0_ parts_)))
def p_blended (top_ : D) (bottom_ : D) (mode_ : D) : M D :=
  (M.bind (fCall m_must_be_mode (fCons (M.pure mode_) fNil)) fun _ =>
  (M.bind (fBin ixD (M.pure bottom_) (M.pure (D.int 3))) fun cover_ => (M.bind (fLst fNil) fun parts_ => 
  (M.bind (fZip (fCons (fSl (M.pure top_) fONo (fOSo (M.pure (D.int 3)))) (fCons (fSl (M.pure bottom_) fONo (fOSo (M.pure (D.int 3)))) fNil))) fun xs2_ => fFor (l0_blended top_ bottom_ mode_ cover_) xs2_ parts_ fun parts_ =>
  (fCall m_laid_over (fCons (fTup (fCons (fBin ixD (M.pure parts_) (M.pure (D.int 0))) (fCons (fBin ixD (M.pure parts_) (M.pure (D.int 1))) (fCons (fBin ixD (M.pure parts_) (M.pure (D.int 2))) (fCons (fBin ixD (M.pure top_) (M.pure (D.int 3))) fNil))))) (fCons (M.pure bottom_) fNil)))))))
def m_blended : Mf := fun ds => match ds with
  | [top_, bottom_, mode_] => p_blended top_ bottom_ mode_
  | _ => M.bad
/-! blended colours -/
theorem lover_eq {t b : C4} (ht : okc t) (hb : okc b) : m__law_over [col t, col b] = M.pure (col (overC t b)) := by
  obtain ⟨a, b', c, d⟩ := t
  obtain ⟨e, f, g, h⟩ := b
  simp only [okc] at ht hb
  have hm := mul_bd (x := h) (y := 255 - d) ⟨by omega, by omega⟩ ⟨by omega, by omega⟩
  unfold col
  show p__law_over _ _ = _
  unfold p__law_over overC
  generalize hl : h * (255 - d) = low at hm
  simp only
  simp (config := { maxSteps := 3000000 }) (disch := first | omega | (simp only [List.length_map, List.length_cons, List.length_nil, List.length_append, List.length_replicate, List.length_set, List.length_range, nts_len, List.length_take, List.length_drop]; omega) | kernel_rfl) only [in_int, ng_int, mx_nil, mx_cons, o_ne_self, o_eq_self, ls_lst, Pm.pure_bind, bad_bind, raise_bind, opt_some, opt_none, Pm.bind_assoc, Pm.bind_pure, f_bin, f_nil, f_cons, f_tup, f_lst, f_call, f_cb, f_if, f_of, f_ofv, f_tru, f_andB, f_orB, f_notB, f_and, f_or, f_not, f_neg, f_chain, f_sl, f_ono, f_oso, f_items, f_zip, f_enum, f_rng, f_lc, f_lcf, f_lc2, f_in, f_lz, f_app, f_ext, f_seti, f_isi, f_u2, f_u3, f_u4, i_tup, i_lst, z_tup, z_lst, zl_nil, zl_cons, en_tup, en_lst, en_nil, en_cons, x_nil, x_cons, x_map, x_pure, xf_nil, xf_cons, xc_nil, xc_cons, noEx_pure, o_add, o_sub, o_lt, o_le, o_gt, o_ge, o_eq, o_ne, o_mulL, o_mulR, o_div, o_mod, o_addT, o_addL, o_iadd, Pm.ix_tup, ix_lst, Pm.sl_tup, sl_lst, b_len_t, b_len_l, b_abs, b_int_i, b_int_b, b_sum, b_all, b_any, b_tup_l, b_tup_t, b_lst_l, b_lst_t, b_max2, b_max3, b_min2, b_min3, t_bl, t_int, t_tup, t_lst, t_non, a_app, a_ext, bl_bl, decide_true, decide_false, Bool.not_true, Bool.not_false, if_true, if_false, Bool.false_eq_true, for_nil, for_cons, ls_cons, ls_nil, at0, at1, at2, at3, at4, List.cons_append, List.nil_append, List.length_cons, List.length_nil, List.length_map, n_ot, isi_int', isi_bool', isi_tup', isi_str', dn_non, dn_int, dn_tup, dn_str, dn_bl, dnn_non, dnn_int, dnn_tup, dnn_str, dnn_bl, decide_eq_true_eq, fBin, fCons, fTup, fLst, fCall, fCB, fIf, fOf, fTru, fAndB, fOrB, fNotB, fAnd, fOr, fNot, fNeg, fChain, fSl, fOSo, fItems, fZip, fEnum, fRng, fLC, fLCf, fLC2, fIn, fLz, fApp, fExt, fSetI, fIsi, hl, cut3]
  by_cases h0 : 255 * d + low = 0
  · simp only [h0, beq_self_eq_true, if_true, if_pos]
  · have hq : (255 * d + low == 0) = false := by simpa using h0
    simp (config := { maxSteps := 3000000 }) (disch := first | omega | (simp only [List.length_map, List.length_cons, List.length_nil, List.length_append, List.length_replicate, List.length_set, List.length_range, nts_len, List.length_take, List.length_drop]; omega) | kernel_rfl) only [hq, if_neg h0, in_int, ng_int, mx_nil, mx_cons, o_ne_self, o_eq_self, ls_lst, Pm.pure_bind, bad_bind, raise_bind, opt_some, opt_none, Pm.bind_assoc, Pm.bind_pure, f_bin, f_nil, f_cons, f_tup, f_lst, f_call, f_cb, f_if, f_of, f_ofv, f_tru, f_andB, f_orB, f_notB, f_and, f_or, f_not, f_neg, f_chain, f_sl, f_ono, f_oso, f_items, f_zip, f_enum, f_rng, f_lc, f_lcf, f_lc2, f_in, f_lz, f_app, f_ext, f_seti, f_isi, f_u2, f_u3, f_u4, i_tup, i_lst, z_tup, z_lst, zl_nil, zl_cons, en_tup, en_lst, en_nil, en_cons, x_nil, x_cons, x_map, x_pure, xf_nil, xf_cons, xc_nil, xc_cons, noEx_pure, o_add, o_sub, o_lt, o_le, o_gt, o_ge, o_eq, o_ne, o_mulL, o_mulR, o_div, o_mod, o_addT, o_addL, o_iadd, Pm.ix_tup, ix_lst, Pm.sl_tup, sl_lst, b_len_t, b_len_l, b_abs, b_int_i, b_int_b, b_sum, b_all, b_any, b_tup_l, b_tup_t, b_lst_l, b_lst_t, b_max2, b_max3, b_min2, b_min3, t_bl, t_int, t_tup, t_lst, t_non, a_app, a_ext, bl_bl, decide_true, decide_false, Bool.not_true, Bool.not_false, if_true, if_false, Bool.false_eq_true, for_nil, for_cons, ls_cons, ls_nil, at0, at1, at2, at3, at4, List.cons_append, List.nil_append, List.length_cons, List.length_nil, List.length_map, n_ot, isi_int', isi_bool', isi_tup', isi_str', dn_non, dn_int, dn_tup, dn_str, dn_bl, dnn_non, dnn_int, dnn_tup, dnn_str, dnn_bl, decide_eq_true_eq, fBin, fCons, fTup, fLst, fCall, fCB, fIf, fOf, fTru, fAndB, fOrB, fNotB, fAnd, fOr, fNot, fNeg, fChain, fSl, fOSo, fItems, fZip, fEnum, fRng, fLC, fLCf, fLC2, fIn, fLz, fApp, fExt, fSetI, fIsi, round_eq]
theorem f_dk (ks : List Str) (ds : List D) : fDk ks (M.pure ds) = if ds.length = ks.length then M.pure (mkD ks ds) else M.bad := rfl
theorem try_ok {α : Type} (T : List (Str × Bool)) (d : D) (k : D → M α) (mh : M D) (kh : D → M α) : fTry T (M.pure d) k mh kh = k d := rfl
/-- the modes' words -/
def mW : List Str := ["plain", "times", "screen", "dark", "light", "add", "less", "apart"]
/-- what the modes tell of parts -/
def mT (w : Str) (p q : Int) : Int :=
  if w = "times" then rnd (p * q) 255 else if w = "screen" then 255 - rnd ((255 - p) * (255 - q)) 255 else if w = "dark" then min p q else if w = "light" then max p q
  else if w = "add" then min 255 (p + q) else if w = "less" then max 0 (q - p) else if w = "apart" then max p q - min p q else p
def byt (p : Int) : Prop := 0 ≤ p ∧ p ≤ 255
theorem mT_plain (p q : Int) : mT "plain" p q = p := by unfold mT; simp only [show (("plain" : Str) = "times") = False from by simp; decide, if_false]; rfl
theorem mode_w {w : Str} (h : w ∈ mW) : w = "plain" ∨ w = "times" ∨ w = "screen" ∨ w = "dark" ∨ w = "light" ∨ w = "add" ∨ w = "less" ∨ w = "apart" := by simpa [mW] using h
theorem eq_strs (x y : Str) : eqD (.str x) (.str y) = some (.bl (x == y)) := by unfold eqD; rw [if_pos (.inl rfl)]; unfold deq; rfl

theorem told_eq {w : Str} (hw : w ∈ mW) {p q : Int} (hp : byt p) (hq : byt q) : m_told_by [.str w, .int p, .int q] = M.pure (.int (mT w p q)) := by
  obtain ⟨p1, p2⟩ := hp
  obtain ⟨q1, q2⟩ := hq
  show p_told_by _ _ _ = _
  unfold p_told_by
  rcases mode_w hw with rfl | rfl | rfl | rfl | rfl | rfl | rfl | rfl
  · rfl
  · show _ = M.pure (D.int (rnd (p * q) 255))
    simp +decide (config := { maxSteps := 3000000 }) (disch := first | omega | (simp only [List.length_map, List.length_cons, List.length_nil, List.length_append, List.length_replicate, List.length_set, List.length_range, nts_len, List.length_take, List.length_drop]; omega) | kernel_rfl) only [in_int, ng_int, mx_nil, mx_cons, o_ne_self, o_eq_self, ls_lst, Pm.pure_bind, bad_bind, raise_bind, opt_some, opt_none, Pm.bind_assoc, Pm.bind_pure, f_bin, f_nil, f_cons, f_tup, f_lst, f_call, f_cb, f_if, f_of, f_ofv, f_tru, f_andB, f_orB, f_notB, f_and, f_or, f_not, f_neg, f_chain, f_sl, f_ono, f_oso, f_items, f_zip, f_enum, f_rng, f_lc, f_lcf, f_lc2, f_in, f_lz, f_app, f_ext, f_seti, f_isi, f_u2, f_u3, f_u4, i_tup, i_lst, z_tup, z_lst, zl_nil, zl_cons, en_tup, en_lst, en_nil, en_cons, x_nil, x_cons, x_map, x_pure, xf_nil, xf_cons, xc_nil, xc_cons, noEx_pure, o_add, o_sub, o_lt, o_le, o_gt, o_ge, o_eq, o_ne, o_mulL, o_mulR, o_div, o_mod, o_addT, o_addL, o_iadd, Pm.ix_tup, ix_lst, Pm.sl_tup, sl_lst, b_len_t, b_len_l, b_abs, b_int_i, b_int_b, b_sum, b_all, b_any, b_tup_l, b_tup_t, b_lst_l, b_lst_t, b_max2, b_max3, b_min2, b_min3, t_bl, t_int, t_tup, t_lst, t_non, a_app, a_ext, bl_bl, decide_true, decide_false, Bool.not_true, Bool.not_false, if_true, if_false, Bool.false_eq_true, for_nil, for_cons, ls_cons, ls_nil, at0, at1, at2, at3, at4, List.cons_append, List.nil_append, List.length_cons, List.length_nil, List.length_map, n_ot, isi_int', isi_bool', isi_tup', isi_str', dn_non, dn_int, dn_tup, dn_str, dn_bl, dnn_non, dnn_int, dnn_tup, dnn_str, dnn_bl, decide_eq_true_eq, fBin, fCons, fTup, fLst, fCall, fCB, fIf, fOf, fTru, fAndB, fOrB, fNotB, fAnd, fOr, fNot, fNeg, fChain, fSl, fOSo, fItems, fZip, fEnum, fRng, fLC, fLCf, fLC2, fIn, fLz, fApp, fExt, fSetI, fIsi, eq_strs, rounded_eq]
  · show _ = M.pure (D.int (255 - rnd ((255 - p) * (255 - q)) 255))
    simp +decide (config := { maxSteps := 3000000 }) (disch := first | omega | (simp only [List.length_map, List.length_cons, List.length_nil, List.length_append, List.length_replicate, List.length_set, List.length_range, nts_len, List.length_take, List.length_drop]; omega) | kernel_rfl) only [in_int, ng_int, mx_nil, mx_cons, o_ne_self, o_eq_self, ls_lst, Pm.pure_bind, bad_bind, raise_bind, opt_some, opt_none, Pm.bind_assoc, Pm.bind_pure, f_bin, f_nil, f_cons, f_tup, f_lst, f_call, f_cb, f_if, f_of, f_ofv, f_tru, f_andB, f_orB, f_notB, f_and, f_or, f_not, f_neg, f_chain, f_sl, f_ono, f_oso, f_items, f_zip, f_enum, f_rng, f_lc, f_lcf, f_lc2, f_in, f_lz, f_app, f_ext, f_seti, f_isi, f_u2, f_u3, f_u4, i_tup, i_lst, z_tup, z_lst, zl_nil, zl_cons, en_tup, en_lst, en_nil, en_cons, x_nil, x_cons, x_map, x_pure, xf_nil, xf_cons, xc_nil, xc_cons, noEx_pure, o_add, o_sub, o_lt, o_le, o_gt, o_ge, o_eq, o_ne, o_mulL, o_mulR, o_div, o_mod, o_addT, o_addL, o_iadd, Pm.ix_tup, ix_lst, Pm.sl_tup, sl_lst, b_len_t, b_len_l, b_abs, b_int_i, b_int_b, b_sum, b_all, b_any, b_tup_l, b_tup_t, b_lst_l, b_lst_t, b_max2, b_max3, b_min2, b_min3, t_bl, t_int, t_tup, t_lst, t_non, a_app, a_ext, bl_bl, decide_true, decide_false, Bool.not_true, Bool.not_false, if_true, if_false, Bool.false_eq_true, for_nil, for_cons, ls_cons, ls_nil, at0, at1, at2, at3, at4, List.cons_append, List.nil_append, List.length_cons, List.length_nil, List.length_map, n_ot, isi_int', isi_bool', isi_tup', isi_str', dn_non, dn_int, dn_tup, dn_str, dn_bl, dnn_non, dnn_int, dnn_tup, dnn_str, dnn_bl, decide_eq_true_eq, fBin, fCons, fTup, fLst, fCall, fCB, fIf, fOf, fTru, fAndB, fOrB, fNotB, fAnd, fOr, fNot, fNeg, fChain, fSl, fOSo, fItems, fZip, fEnum, fRng, fLC, fLCf, fLC2, fIn, fLz, fApp, fExt, fSetI, fIsi, eq_strs, rounded_eq]
    rfl
  · rfl
  · rfl
  · rfl
  · rfl
  · show _ = M.pure (D.int (max p q - min p q))
    have e : max p q - min p q = if p - q < 0 then -(p - q) else p - q := by omega
    rw [e]
    rfl
theorem lmode_eq {w : Str} (hw : w ∈ mW) {p q : Int} (hp : byt p) (hq : byt q) : m__law_mode [.str w, .int p, .int q] = M.pure (.int (mT w p q)) := by
  obtain ⟨p1, p2⟩ := hp
  obtain ⟨q1, q2⟩ := hq
  show p__law_mode _ _ _ = _
  unfold p__law_mode
  simp (config := { maxSteps := 3000000 }) (disch := first | omega | (simp only [List.length_map, List.length_cons, List.length_nil, List.length_append, List.length_replicate, List.length_set, List.length_range, nts_len, List.length_take, List.length_drop]; omega) | kernel_rfl) only [in_int, ng_int, mx_nil, mx_cons, o_ne_self, o_eq_self, ls_lst, Pm.pure_bind, bad_bind, raise_bind, opt_some, opt_none, Pm.bind_assoc, Pm.bind_pure, f_bin, f_nil, f_cons, f_tup, f_lst, f_call, f_cb, f_if, f_of, f_ofv, f_tru, f_andB, f_orB, f_notB, f_and, f_or, f_not, f_neg, f_chain, f_sl, f_ono, f_oso, f_items, f_zip, f_enum, f_rng, f_lc, f_lcf, f_lc2, f_in, f_lz, f_app, f_ext, f_seti, f_isi, f_u2, f_u3, f_u4, i_tup, i_lst, z_tup, z_lst, zl_nil, zl_cons, en_tup, en_lst, en_nil, en_cons, x_nil, x_cons, x_map, x_pure, xf_nil, xf_cons, xc_nil, xc_cons, noEx_pure, o_add, o_sub, o_lt, o_le, o_gt, o_ge, o_eq, o_ne, o_mulL, o_mulR, o_div, o_mod, o_addT, o_addL, o_iadd, Pm.ix_tup, ix_lst, Pm.sl_tup, sl_lst, b_len_t, b_len_l, b_abs, b_int_i, b_int_b, b_sum, b_all, b_any, b_tup_l, b_tup_t, b_lst_l, b_lst_t, b_max2, b_max3, b_min2, b_min3, t_bl, t_int, t_tup, t_lst, t_non, a_app, a_ext, bl_bl, decide_true, decide_false, Bool.not_true, Bool.not_false, if_true, if_false, Bool.false_eq_true, for_nil, for_cons, ls_cons, ls_nil, at0, at1, at2, at3, at4, List.cons_append, List.nil_append, List.length_cons, List.length_nil, List.length_map, n_ot, isi_int', isi_bool', isi_tup', isi_str', dn_non, dn_int, dn_tup, dn_str, dn_bl, dnn_non, dnn_int, dnn_tup, dnn_str, dnn_bl, decide_eq_true_eq, fBin, fCons, fTup, fLst, fCall, fCB, fIf, fOf, fTru, fAndB, fOrB, fNotB, fAnd, fOr, fNot, fNeg, fChain, fSl, fOSo, fItems, fZip, fEnum, fRng, fLC, fLCf, fLC2, fIn, fLz, fApp, fExt, fSetI, fIsi, round_eq]
  generalize hA : rnd (p * q) 255 = A
  generalize hB : rnd ((255 - p) * (255 - q)) 255 = B
  rcases mode_w hw with rfl | rfl | rfl | rfl | rfl | rfl | rfl | rfl
  · kernel_rfl
  · show _ = M.pure (D.int (rnd (p * q) 255))
    rw [hA]; kernel_rfl
  · show _ = M.pure (D.int (255 - rnd ((255 - p) * (255 - q)) 255))
    rw [hB]; kernel_rfl
  all_goals kernel_rfl
theorem rnd_bd {a : Int} (h0 : 0 ≤ a) (h1 : a ≤ 65025) : byt (rnd a 255) := by unfold byt rnd; omega
theorem mT_bd {w : Str} (hw : w ∈ mW) {p q : Int} (hp : byt p) (hq : byt q) : byt (mT w p q) := by
  have m1 := mul_bd hp hq
  have m2 := mul_bd (x := 255 - p) (y := 255 - q) ⟨by unfold byt at hp; omega, by unfold byt at hp; omega⟩ ⟨by unfold byt at hq; omega, by unfold byt at hq; omega⟩
  have r1 := rnd_bd m1.1 m1.2
  have r2 := rnd_bd m2.1 m2.2
  unfold mT
  unfold byt at *
  repeat' split
  all_goals omega
/-- a part ahead of the laying -/
def mP (w : Str) (c p q : Int) : Int := rnd ((255 - c) * p + c * mT w p q) 255
theorem mP_bd {w : Str} (hw : w ∈ mW) {c p q : Int} (hc : byt c) (hp : byt p) (hq : byt q) : byt (mP w c p q) := by
  have ht := mT_bd hw hp hq
  have c1 : 0 ≤ 255 - c := by unfold byt at hc; omega
  have a1 := Int.mul_nonneg c1 hp.1
  have a2 := Int.mul_nonneg hc.1 ht.1
  have a3 := Int.mul_le_mul_of_nonneg_left hp.2 c1
  have a4 := Int.mul_le_mul_of_nonneg_left ht.2 hc.1
  exact rnd_bd (by omega) (by omega)
def blC (w : Str) (t b : C4) : C4 := (mP w b.2.2.2 t.1 b.1, mP w b.2.2.2 t.2.1 b.2.1, mP w b.2.2.2 t.2.2.1 b.2.2.1, t.2.2.2)
theorem ok_blC {w : Str} (hw : w ∈ mW) {t b : C4} (ht : okc t) (hb : okc b) : okc (blC w t b) := ⟨mP_bd hw hb.2.2.2 ht.1 hb.1, mP_bd hw hb.2.2.2 ht.2.1 hb.2.1, mP_bd hw hb.2.2.2 ht.2.2.1 hb.2.2.1, ht.2.2.2⟩
theorem must_ok {w : Str} (hw : w ∈ mW) : m_must_be_mode [.str w] = M.pure .non := by
  rcases mode_w hw with rfl | rfl | rfl | rfl | rfl | rfl | rfl | rfl <;> kernel_rfl
theorem col_mk (a b c d : Int) : D.tup [.int a, .int b, .int c, .int d] = col (a, b, c, d) := rfl
theorem blended_eq {w : Str} (hw : w ∈ mW) {t b : C4} (ht : okc t) (hb : okc b) : m_blended [col t, col b, .str w] = M.pure (col (overC (blC w t b) b)) := by
  rw [← over_eq (ok_blC hw ht hb) hb]
  obtain ⟨a1, a2, a3, a4⟩ := t
  obtain ⟨b1, b2, b3, b4⟩ := b
  obtain ⟨h1, h2, h3, h4⟩ := ht
  obtain ⟨k1, k2, k3, k4⟩ := hb
  simp only at h1 h2 h3 h4 k1 k2 k3 k4
  show p_blended _ _ _ = _
  have hm : fCall m_must_be_mode (fCons (M.pure (.str w)) fNil) = M.pure .non := must_ok hw
  unfold p_blended
  rw [hm]
  clear hm
  have hr : ∀ {a b : Int}, 0 < b → b < 500000000 → m_rounded [.int a, .int b] = M.pure (.int (rnd a b)) := rounded_eq
  have t1 := told_eq hw h1 k1
  have t2 := told_eq hw h2 k2
  have t3 := told_eq hw h3 k3
  unfold l0_blended col blC mP
  generalize m_laid_over = G
  generalize m_rounded = R at hr ⊢
  generalize m_told_by = T at t1 t2 t3 ⊢
  simp only [Pm.pure_bind, f_bin, Pm.ix_tup, at3, opt_some, f_lst, f_nil, f_sl, f_ono, f_oso, Pm.sl_tup, cut3, f_cons, f_zip, z_tup, zl_cons, zl_nil, for_cons, for_nil, f_u2]
  simp (disch := first | omega | (simp only [List.length_cons, List.length_nil]; done) | (simp only [List.length_cons, List.length_nil]; omega) | decide) only [Pm.pure_bind, f_bin, Pm.ix_tup, at3, opt_some, f_lst, f_nil, f_sl, f_ono, f_oso, Pm.sl_tup, cut3, f_cons, f_zip, z_tup, zl_cons, zl_nil, for_cons, for_nil, f_u2, o_sub, o_mulL, f_call, t1, t2, t3, hr, o_add, f_app, a_app, List.nil_append, List.cons_append, ix_lst, at0, at1, at2, at3, f_tup]
theorem lblended_eq {w : Str} (hw : w ∈ mW) {t b : C4} (ht : okc t) (hb : okc b) : m__law_blended [col t, col b, .str w] = M.pure (col (overC (blC w t b) b)) := by
  rw [← lover_eq (ok_blC hw ht hb) hb]
  obtain ⟨a1, a2, a3, a4⟩ := t
  obtain ⟨b1, b2, b3, b4⟩ := b
  obtain ⟨h1, h2, h3, h4⟩ := ht
  obtain ⟨k1, k2, k3, k4⟩ := hb
  simp only at h1 h2 h3 h4 k1 k2 k3 k4
  show p__law_blended _ _ _ = _
  unfold p__law_blended l0__law_blended col blC mP
  simp (config := { maxSteps := 3000000 }) (disch := first | omega | (simp only [List.length_map, List.length_cons, List.length_nil, List.length_append, List.length_replicate, List.length_set, List.length_range, nts_len, List.length_take, List.length_drop]; omega) | kernel_rfl) only [in_int, ng_int, mx_nil, mx_cons, o_ne_self, o_eq_self, ls_lst, Pm.pure_bind, bad_bind, raise_bind, opt_some, opt_none, Pm.bind_assoc, Pm.bind_pure, f_bin, f_nil, f_cons, f_tup, f_lst, f_call, f_cb, f_if, f_of, f_ofv, f_tru, f_andB, f_orB, f_notB, f_and, f_or, f_not, f_neg, f_chain, f_sl, f_ono, f_oso, f_items, f_zip, f_enum, f_rng, f_lc, f_lcf, f_lc2, f_in, f_lz, f_app, f_ext, f_seti, f_isi, f_u2, f_u3, f_u4, i_tup, i_lst, z_tup, z_lst, zl_nil, zl_cons, en_tup, en_lst, en_nil, en_cons, x_nil, x_cons, x_map, x_pure, xf_nil, xf_cons, xc_nil, xc_cons, noEx_pure, o_add, o_sub, o_lt, o_le, o_gt, o_ge, o_eq, o_ne, o_mulL, o_mulR, o_div, o_mod, o_addT, o_addL, o_iadd, Pm.ix_tup, ix_lst, Pm.sl_tup, sl_lst, b_len_t, b_len_l, b_abs, b_int_i, b_int_b, b_sum, b_all, b_any, b_tup_l, b_tup_t, b_lst_l, b_lst_t, b_max2, b_max3, b_min2, b_min3, t_bl, t_int, t_tup, t_lst, t_non, a_app, a_ext, bl_bl, decide_true, decide_false, Bool.not_true, Bool.not_false, if_true, if_false, Bool.false_eq_true, for_nil, for_cons, ls_cons, ls_nil, at0, at1, at2, at3, at4, List.cons_append, List.nil_append, List.length_cons, List.length_nil, List.length_map, n_ot, isi_int', isi_bool', isi_tup', isi_str', dn_non, dn_int, dn_tup, dn_str, dn_bl, dnn_non, dnn_int, dnn_tup, dnn_str, dnn_bl, decide_eq_true_eq, fBin, fCons, fTup, fLst, fCall, fCB, fIf, fOf, fTru, fAndB, fOrB, fNotB, fAnd, fOr, fNot, fNeg, fChain, fSl, fOSo, fItems, fZip, fEnum, fRng, fLC, fLCf, fLC2, fIn, fLz, fApp, fExt, fSetI, fIsi, cut3, lmode_eq hw h1 k1, lmode_eq hw h2 k2, lmode_eq hw h3 k3, round_eq]
end Pm
end
noncomputable section
namespace Pm
open PySem
def l0_bent (first_ : D) (through_ : D) (last_ : D) (step_ : D) (found_ : D) (k0_ : D → M D) : M D :=
  (M.bind (fTup (fCons (fBin mulD (fBin subD (M.pure (D.int 8)) (M.pure step_)) (fBin subD (M.pure (D.int 8)) (M.pure step_))) (fCons (fBin mulD (fBin mulD (M.pure (D.int 2)) (M.pure step_)) (fBin subD (M.pure (D.int 8)) (M.pure step_))) (fCons (fBin mulD (M.pure step_) (M.pure step_)) fNil)))) fun it1_ => (fU3 it1_ fun left_ mid_ right_ => 
  (M.bind (fLC (fZip3 (fCons (M.pure first_) (fCons (M.pure through_) (fCons (M.pure last_) fNil)))) fun it2_ => (fU3 it2_ fun one_ two_ three_ => (fBin addD (fBin addD (fBin mulD (M.pure left_) (M.pure one_)) (fBin mulD (M.pure mid_) (M.pure two_))) (fBin mulD (M.pure right_) (M.pure three_))))) fun rows_ =>
  (M.bind (fApp found_ (fTup (fCons (fCall m_rounded (fCons (fBin ixD (M.pure rows_) (M.pure (D.int 0))) (fCons (M.pure (D.int 64)) fNil))) (fCons (fCall m_rounded (fCons (fBin ixD (M.pure rows_) (M.pure (D.int 1))) (fCons (M.pure (D.int 64)) fNil))) fNil)))) fun found_ =>
  (k0_ found_)))))
def p_bent (first_ : D) (through_ : D) (last_ : D) : M D :=
  (M.bind (fLst fNil) fun found_ =>
  (M.bind (fRng (fCons (M.pure (D.int 1)) (fCons (M.pure (D.int 9)) fNil))) fun xs3_ => fFor (l0_bent first_ through_ last_) xs3_ found_ fun found_ =>
  (M.pure found_)))
def m_bent : Mf := fun ds => match ds with
  | [first_, through_, last_] => p_bent first_ through_ last_
  | _ => M.bad
def l1_flat_rings (rings_ : D) (piece_ : D) (points_ : D) (k1_ : D → M D) : M D :=
  (fIf (fOf (fBin eqD (fBin ixD (M.pure piece_) (M.pure (D.int 0))) (M.pure (D.str "to"))))
  (M.bind (fApp points_ (fBin ixD (M.pure piece_) (M.pure (D.int 1)))) fun points_ =>
  (k1_ points_))
  (M.bind (fExt points_ (fCall m_bent (fCons (fBin ixD (M.pure points_) (fNeg (M.pure (D.int 1)))) (fCons (fBin ixD (M.pure piece_) (M.pure (D.int 1))) (fCons (fBin ixD (M.pure piece_) (M.pure (D.int 2))) fNil))))) fun points_ =>
  (k1_ points_)))
def l0_flat_rings (ring_ : D) (rings_ : D) (k0_ : D → M D) : M D :=
  (M.bind (fLst fNil) fun points_ =>
  (M.bind (fItems (M.pure ring_)) fun xs1_ => fFor (l1_flat_rings rings_) xs1_ points_ fun points_ =>
  (M.bind (fApp rings_ (fCB tupF (fCons (M.pure points_) fNil))) fun rings_ =>
  (k0_ rings_))))
def p_flat_rings (path_ : D) : M D :=
  (M.bind (fLst fNil) fun rings_ =>
  (M.bind (fItems (M.pure path_)) fun xs2_ => fFor (l0_flat_rings) xs2_ rings_ fun rings_ =>
  (fCB tupF (fCons (M.pure rings_) fNil))))
def m_flat_rings : Mf := fun ds => match ds with
  | [path_] => p_flat_rings path_
  | _ => M.bad
def p_meets (one_ : D) (other_ : D) (x_ : D) (y_ : D) : M D :=
  (fIf (fOf (fBin eqD (fBin ltD (fBin ixD (M.pure one_) (M.pure (D.int 1))) (M.pure y_)) (fBin ltD (fBin ixD (M.pure other_) (M.pure (D.int 1))) (M.pure y_))))
  (M.pure (D.int 0))
  (M.bind (fBin subD (fBin mulD (fBin subD (fBin ixD (M.pure other_) (M.pure (D.int 0))) (fBin ixD (M.pure one_) (M.pure (D.int 0)))) (fBin subD (M.pure y_) (fBin ixD (M.pure one_) (M.pure (D.int 1))))) (fBin mulD (fBin subD (M.pure x_) (fBin ixD (M.pure one_) (M.pure (D.int 0)))) (fBin subD (fBin ixD (M.pure other_) (M.pure (D.int 1))) (fBin ixD (M.pure one_) (M.pure (D.int 1)))))) fun side_ =>
  (M.bind (fBin gtD (fBin ixD (M.pure other_) (M.pure (D.int 1))) (fBin ixD (M.pure one_) (M.pure (D.int 1)))) fun down_ =>
  (fIf (fAndB (fOf (fBin eqD (fBin gtD (M.pure side_) (M.pure (D.int 0))) (M.pure down_))) (fOf (fBin neD (M.pure side_) (M.pure (D.int 0))))) (fIf (fTru (M.pure down_)) (M.pure (D.int 1)) (fNeg (M.pure (D.int 1)))) (M.pure (D.int 0))))))
def m_meets : Mf := fun ds => match ds with
  | [one_, other_, x_, y_] => p_meets one_ other_ x_ y_
  | _ => M.bad
def l0_is_within (x_ : D) (y_ : D) (rule_ : D) (ring_ : D) (met_ : D) (k0_ : D → M D) : M D :=
  (M.bind (fExt met_ (fLC (fZip (fCons (M.pure ring_) (fCons (fBin addD (fSl (M.pure ring_) (fOSo (M.pure (D.int 1))) fONo) (fSl (M.pure ring_) fONo (fOSo (M.pure (D.int 1))))) fNil))) fun it1_ => (fU2 it1_ fun one_ other_ => (fCall m_meets (fCons (M.pure one_) (fCons (M.pure other_) (fCons (M.pure x_) (fCons (M.pure y_) fNil)))))))) fun met_ =>
  (k0_ met_))
def p_is_within (rings_ : D) (x_ : D) (y_ : D) (rule_ : D) : M D :=
  (M.bind (fLst fNil) fun met_ =>
  (M.bind (fItems (M.pure rings_)) fun xs2_ => fFor (l0_is_within x_ y_ rule_) xs2_ met_ fun met_ =>
  (fIf (fOf (fBin eqD (M.pure rule_) (M.pure (D.str "odd"))))
  (fBin eqD (fBin modD (fCB lenF (fCons (fLCf (fItems (M.pure met_)) fun one_ => fIf (fOf (fBin neD (M.pure one_) (M.pure (D.int 0)))) (M.bind (M.pure (D.int 1)) fun y_ => M.pure (some y_)) (M.pure none)) fNil)) (M.pure (D.int 2))) (M.pure (D.int 1)))
  (fBin neD (fCB sumF (fCons (M.pure met_) fNil)) (M.pure (D.int 0))))))
def m_is_within : Mf := fun ds => match ds with
  | [rings_, x_, y_, rule_] => p_is_within rings_ x_ y_ rule_
  | _ => M.bad
def l1_spots_mask (L_ : Lams) (width_ : D) (height_ : D) (told_ : D) (y_ : D) (x_ : D) (cells_ : D) (k1_ : D → M D) : M D :=
  (M.bind (fLC2 (fRng (fCons (M.pure (D.int 4)) fNil)) fun dy_ => (fIn (fRng (fCons (M.pure (D.int 4)) fNil)) fun dx_ => (fTup (fCons (fBin addD (fBin addD (fBin mulD (M.pure (D.int 8)) (M.pure x_)) (fBin mulD (M.pure (D.int 2)) (M.pure dx_))) (M.pure (D.int 1))) (fCons (fBin addD (fBin addD (fBin mulD (M.pure (D.int 8)) (M.pure y_)) (fBin mulD (M.pure (D.int 2)) (M.pure dy_))) (M.pure (D.int 1))) fNil))))) fun spots_ =>
  (M.bind (fApp cells_ (fCall m_rounded (fCons (fBin mulD (M.pure (D.int 255)) (fCB lenF (fCons (fLCf (fItems (M.pure spots_)) fun it1_ => (fU2 it1_ fun across_ down_ => fIf (fTru (fCF L_ (M.pure told_) (fCons (M.pure across_) (fCons (M.pure down_) fNil)))) (M.bind (M.pure (D.int 1)) fun y_ => M.pure (some y_)) (M.pure none))) fNil))) (fCons (M.pure (D.int 16)) fNil)))) fun cells_ =>
  (k1_ cells_)))
def l0_spots_mask (L_ : Lams) (width_ : D) (height_ : D) (told_ : D) (y_ : D) (cells_ : D) (k0_ : D → M D) : M D :=
  (M.bind (fRng (fCons (M.pure width_) fNil)) fun xs2_ => fFor (l1_spots_mask L_ width_ height_ told_ y_) xs2_ cells_ fun cells_ =>
  (k0_ cells_))
def p_spots_mask (L_ : Lams) (width_ : D) (height_ : D) (told_ : D) : M D :=
  (M.bind (fLst fNil) fun cells_ =>
  (M.bind (fRng (fCons (M.pure height_) fNil)) fun xs3_ => fFor (l0_spots_mask L_ width_ height_ told_) xs3_ cells_ fun cells_ =>
  (fTup (fCons (M.pure width_) (fCons (M.pure height_) (fCons (fCB tupF (fCons (M.pure cells_) fNil)) fNil))))))
def m_spots_mask (L_ : Lams) : Mf := fun ds => match ds with
  | [width_, height_, told_] => p_spots_mask L_ width_ height_ told_
  | _ => M.bad
def p_covered (L_ : Lams) (path_ : D) (width_ : D) (height_ : D) (rule_ : D) : M D :=
  (fIf (fOf (fBin ninD (M.pure rule_) (fTup (fCons (M.pure (D.str "odd")) (fCons (M.pure (D.str "wound")) fNil)))))
  (M.raise "BadRule")
  (M.bind (fLC (fItems (fCall m_flat_rings (fCons (M.pure path_) fNil))) fun ring_ => (fCB tupF (fCons (fLC (fItems (M.pure ring_)) fun it1_ => (fU2 it1_ fun x_ y_ => (fTup (fCons (fBin mulD (M.pure (D.int 2)) (M.pure x_)) (fCons (fBin mulD (M.pure (D.int 2)) (M.pure y_)) fNil))))) fNil))) fun rings_ =>
  (fCalL (m_spots_mask L_) 0 (L_.tx 0) (fCons (M.pure rule_) (fCons (M.pure rings_) fNil)) (fCons (M.pure width_) (fCons (M.pure height_) fNil)))))
def m_covered (L_ : Lams) : Mf := fun ds => match ds with
  | [path_, width_, height_, rule_] => p_covered L_ path_ width_ height_ rule_
  | _ => M.bad
theorem ixT {l : List D} (i : Int) : fBin ixD (M.pure (.tup l)) (M.pure (.int i)) = M.opt (L2.atI l i) := rfl
theorem for_grow {body : D → D → (D → M D) → M D} {α : Type} {E v : α → D} {N : Nat} : ∀ (l : List α) (acc : List D) (k : D → M D), (∀ x ∈ l, ∀ acc k, acc.length ≤ N → body (E x) (.lst acc) k = k (.lst (acc ++ [v x]))) → acc.length + l.length ≤ N → fFor body (l.map E) (.lst acc) k = k (.lst (acc ++ l.map v))
  | [], acc, k, _, _ => by rw [List.map_nil, for_nil, List.map_nil, List.append_nil]
  | x :: l, acc, k, h, hl => by
    simp only [List.length_cons] at hl
    rw [List.map_cons, for_cons, h x List.mem_cons_self acc _ (by omega), for_grow l _ k (fun y hy => h y (List.mem_cons_of_mem _ hy)) (by simp; omega)]
    simp
/-! paths -/
abbrev Pt := Int × Int
abbrev Pc := Pt ⊕ (Pt × Pt)
def ptD (p : Pt) : D := .tup [.int p.1, .int p.2]
def pcD : Pc → D
  | .inl p => .tup [.str "to", ptD p]
  | .inr q => .tup [.str "by", ptD q.1, ptD q.2]
def rgD (r : Pt × List Pc) : D := .tup (pcD (.inl r.1) :: r.2.map pcD)
def phD (p : List (Pt × List Pc)) : D := .tup (p.map rgD)
def bentI (a b c s : Int) : Int := rnd ((8 - s) * (8 - s) * a + 2 * s * (8 - s) * b + s * s * c) 64
def bentP (f t l : Pt) (s : Int) : Pt := (bentI f.1 t.1 l.1 s, bentI f.2 t.2 l.2 s)
theorem sq_bd {s : Int} (h : 1 ≤ s ∧ s ≤ 8) : (0 ≤ (8 - s) * (8 - s) ∧ (8 - s) * (8 - s) ≤ 64) ∧ (0 ≤ 2 * s * (8 - s) ∧ 2 * s * (8 - s) ≤ 128) ∧ (0 ≤ s * s ∧ s * s ≤ 64) := by
  have e : s = 1 ∨ s = 2 ∨ s = 3 ∨ s = 4 ∨ s = 5 ∨ s = 6 ∨ s = 7 ∨ s = 8 := by omega
  rcases e with rfl | rfl | rfl | rfl | rfl | rfl | rfl | rfl <;> decide
theorem appD {l : List D} {x : D} {m : M D} (h : l.length ≤ 10000) (hm : m = M.pure x) : fApp (.lst l) m = M.pure (.lst (l ++ [x])) := by
  rw [hm, f_app, a_app (by omega)]; rfl
theorem wts {s : Int} (h : 1 ≤ s ∧ s ≤ 8) : fTup (fCons (fBin mulD (fBin subD (M.pure (D.int 8)) (M.pure (.int s))) (fBin subD (M.pure (D.int 8)) (M.pure (.int s)))) (fCons (fBin mulD (fBin mulD (M.pure (D.int 2)) (M.pure (.int s))) (fBin subD (M.pure (D.int 8)) (M.pure (.int s)))) (fCons (fBin mulD (M.pure (.int s)) (M.pure (.int s))) fNil))) = M.pure (.tup [.int ((8 - s) * (8 - s)), .int (2 * s * (8 - s)), .int (s * s)]) := by
  rw [show fBin subD (M.pure (D.int 8)) (M.pure (.int s)) = M.pure (.int (8 - s)) from rfl, f_bin, f_bin, f_bin, o_mulL (i := 2) (by omega) (by omega), o_mulL (i := s) (by omega) (by omega), o_mulL (i := 8 - s) (by omega) (by omega), opt_some, opt_some, opt_some, f_bin, o_mulR (j := 8 - s) (by omega) (by omega)]
  rfl
theorem three {L M' R a b c : Int} (h1 : 0 ≤ L ∧ L ≤ 64) (h2 : 0 ≤ M' ∧ M' ≤ 128) (h3 : 0 ≤ R ∧ R ≤ 64) : fBin addD (fBin addD (fBin mulD (M.pure (.int L)) (M.pure (.int a))) (fBin mulD (M.pure (.int M')) (M.pure (.int b)))) (fBin mulD (M.pure (.int R)) (M.pure (.int c))) = M.pure (.int (L * a + M' * b + R * c)) := by
  rw [f_bin, f_bin, f_bin, o_mulL (i := L) (by omega) (by omega), o_mulL (i := M') (by omega) (by omega), o_mulL (i := R) (by omega) (by omega), opt_some, opt_some, opt_some, f_bin, o_add, opt_some, f_bin, o_add]; rfl
theorem bent1 (f t l : Pt) {s : Int} (h : 1 ≤ s ∧ s ≤ 8) {acc : List D} (ha : acc.length ≤ 10000) (k : D → M D) : l0_bent (ptD f) (ptD t) (ptD l) (.int s) (.lst acc) k = k (.lst (acc ++ [ptD (bentP f t l s)])) := by
  obtain ⟨h1, h2, h3⟩ := sq_bd h
  unfold l0_bent
  rw [wts h, Pm.pure_bind, f_u3]
  have ez : fZip3 (fCons (M.pure (ptD f)) (fCons (M.pure (ptD t)) (fCons (M.pure (ptD l)) fNil))) = M.pure [.tup [.int f.1, .int t.1, .int l.1], .tup [.int f.2, .int t.2, .int l.2]] := rfl
  rw [ez, f_lc, x_cons, x_cons, x_nil, f_u3, f_u3, three h1 h2 h3, three h1 h2 h3]
  rw [show (noEx (M.pure (D.int ((8 - s) * (8 - s) * f.1 + 2 * s * (8 - s) * t.1 + s * s * l.1)))).bind (fun a => ((noEx (M.pure (D.int ((8 - s) * (8 - s) * f.2 + 2 * s * (8 - s) * t.2 + s * s * l.2)))).bind fun a => (M.pure []).bind fun r => M.pure (a :: r)).bind fun r => M.pure (a :: r)) = M.pure [D.int ((8 - s) * (8 - s) * f.1 + 2 * s * (8 - s) * t.1 + s * s * l.1), D.int ((8 - s) * (8 - s) * f.2 + 2 * s * (8 - s) * t.2 + s * s * l.2)] from rfl, Pm.pure_bind, Pm.pure_bind]
  rw [f_bin, f_bin, ix_lst, ix_lst, at0, at1, opt_some, opt_some, f_nil, f_cons, f_cons, f_call, f_cons, f_call, rounded_eq (by decide) (by decide), rounded_eq (by decide) (by decide)]
  rw [f_cons, f_cons, f_tup, appD ha rfl, Pm.pure_bind]
  rfl
def b8 (f t l : Pt) : List Pt := [bentP f t l 1, bentP f t l 2, bentP f t l 3, bentP f t l 4, bentP f t l 5, bentP f t l 6, bentP f t l 7]
theorem rng8 : fRng (fCons (M.pure (D.int 1)) (fCons (M.pure (D.int 9)) fNil)) = M.pure [.int 1, .int 2, .int 3, .int 4, .int 5, .int 6, .int 7, .int 8] := by
  show M.opt (rngF [.int 1, .int 9]) = _
  rw [rng_B (by decide) (by decide) (by decide) (by decide)]
  rfl
theorem loop8 {body : D → D → (D → M D) → M D} {f t l : Pt} (hb : ∀ (s : Int), 1 ≤ s ∧ s ≤ 8 → ∀ (acc : List D), acc.length ≤ 10000 → ∀ k, body (.int s) (.lst acc) k = k (.lst (acc ++ [ptD (bentP f t l s)]))) {acc : List D} (ha : acc.length ≤ 9000) (k : D → M D) : fFor body [.int 1, .int 2, .int 3, .int 4, .int 5, .int 6, .int 7, .int 8] (.lst acc) k = k (.lst (acc ++ ((b8 f t l ++ [bentP f t l 8]).map ptD))) := by
  rw [for_cons, hb 1 (by decide) _ (by omega), for_cons, hb 2 (by decide) _ (by simp; omega), for_cons, hb 3 (by decide) _ (by simp; omega), for_cons, hb 4 (by decide) _ (by simp; omega), for_cons, hb 5 (by decide) _ (by simp; omega), for_cons, hb 6 (by decide) _ (by simp; omega), for_cons, hb 7 (by decide) _ (by simp; omega), for_cons, hb 8 (by decide) _ (by simp; omega), for_nil]
  congr 2
  simp [b8]
theorem bent_eq (f t l : Pt) : m_bent [ptD f, ptD t, ptD l] = M.pure (.lst ((b8 f t l ++ [bentP f t l 8]).map ptD)) := by
  show p_bent _ _ _ = _
  unfold p_bent
  rw [show fLst fNil = M.pure (.lst []) from rfl, Pm.pure_bind, rng8, Pm.pure_bind, loop8 (fun s hs acc ha k => bent1 f t l hs ha k) (by simp)]
  rfl
/-- a ring's points, of which z is the last so far -/
def flatR : List Pt → Pt → List Pc → List Pt
  | pre, z, [] => pre ++ [z]
  | pre, z, .inl p :: r => flatR (pre ++ [z]) p r
  | pre, z, .inr q :: r => flatR (pre ++ [z] ++ b8 z q.1 q.2) (bentP z q.1 q.2 8) r
theorem last_at (pre : List Pt) (z : Pt) : fBin ixD (M.pure (.lst ((pre ++ [z]).map ptD))) (fNeg (M.pure (D.int 1))) = M.pure (ptD z) := by
  rw [f_neg, f_bin, ix_lst]
  have e : L2.atI ((pre ++ [z]).map ptD) (-1) = some (ptD z) := by
    unfold L2.atI L2.ixN
    rw [if_neg (by decide), if_pos (by simp; omega)]
    show ((pre ++ [z]).map ptD)[(-1 + (((pre ++ [z]).map ptD).length : Int)).toNat]? = _
    have : (-1 + (((pre ++ [z]).map ptD).length : Int)).toNat = pre.length := by simp; omega
    rw [this, List.map_append, List.getElem?_append_right (by simp)]
    simp
  rw [e]; rfl
theorem pc0 (p : Pt) : fOf (fBin eqD (fBin ixD (M.pure (pcD (.inl p))) (M.pure (D.int 0))) (M.pure (D.str "to"))) = M.pure true := by
  rw [show pcD (.inl p) = .tup [.str "to", ptD p] from rfl, ixT, at0, opt_some, f_bin, eq_strs]
  have : (("to" : Str) == "to") = true := by decide
  rw [this]; rfl
theorem pc0' (q : Pt × Pt) : fOf (fBin eqD (fBin ixD (M.pure (pcD (.inr q))) (M.pure (D.int 0))) (M.pure (D.str "to"))) = M.pure false := by
  rw [show pcD (.inr q) = .tup [.str "by", ptD q.1, ptD q.2] from rfl, ixT, at0, opt_some, f_bin, eq_strs]
  have : (("by" : Str) == "to") = false := by decide
  rw [this]; rfl
theorem pc1 (p : Pt) : fBin ixD (M.pure (pcD (.inl p))) (M.pure (D.int 1)) = M.pure (ptD p) := by
  rw [show pcD (.inl p) = .tup [.str "to", ptD p] from rfl, ixT, at1]; rfl
theorem pc1' (q : Pt × Pt) : fBin ixD (M.pure (pcD (.inr q))) (M.pure (D.int 1)) = M.pure (ptD q.1) := by
  rw [show pcD (.inr q) = .tup [.str "by", ptD q.1, ptD q.2] from rfl, ixT, at1]; rfl
theorem pc2' (q : Pt × Pt) : fBin ixD (M.pure (pcD (.inr q))) (M.pure (D.int 2)) = M.pure (ptD q.2) := by
  rw [show pcD (.inr q) = .tup [.str "by", ptD q.1, ptD q.2] from rfl, ixT, at2]; rfl
theorem flat_to (rd : D) (p : Pt) {acc : List Pt} (ha : acc.length ≤ 9000) (k : D → M D) : l1_flat_rings rd (pcD (.inl p)) (.lst (acc.map ptD)) k = k (.lst ((acc ++ [p]).map ptD)) := by
  unfold l1_flat_rings
  rw [pc0, f_if, if_pos rfl, appD (by rw [List.length_map]; omega) (pc1 p), Pm.pure_bind, List.map_append]; rfl
theorem flat_by (rd : D) (q : Pt × Pt) (pre : List Pt) (z : Pt) (ha : pre.length ≤ 8000) (k : D → M D) : l1_flat_rings rd (pcD (.inr q)) (.lst ((pre ++ [z]).map ptD)) k = k (.lst ((pre ++ [z] ++ b8 z q.1 q.2 ++ [bentP z q.1 q.2 8]).map ptD)) := by
  unfold l1_flat_rings
  have e := bent_eq z q.1 q.2
  rw [pc0', f_if, if_neg (by simp), last_at, pc1', pc2', f_nil, f_cons, f_cons, f_cons, f_call, e, f_ext, a_ext (by simp [b8]; omega), opt_some, Pm.pure_bind]
  congr 2
  simp
theorem flat_go (rd : D) (k : D → M D) : ∀ (r : List Pc) (pre : List Pt) (z : Pt), pre.length + 8 * r.length ≤ 7000 → fFor (l1_flat_rings rd) (r.map pcD) (.lst ((pre ++ [z]).map ptD)) k = k (.lst ((flatR pre z r).map ptD))
  | [], pre, z, _ => by rw [List.map_nil, for_nil]; rfl
  | .inl p :: r, pre, z, h => by
    simp only [List.length_cons] at h
    rw [List.map_cons, for_cons, flat_to rd p (by simp; omega), flat_go rd k r (pre ++ [z]) p (by simp; omega)]; rfl
  | .inr q :: r, pre, z, h => by
    simp only [List.length_cons] at h
    rw [List.map_cons, for_cons, flat_by rd q pre z (by omega), flat_go rd k r (pre ++ [z] ++ b8 z q.1 q.2) (bentP z q.1 q.2 8) (by simp [b8]; omega)]; rfl
def flD (r : Pt × List Pc) : D := .tup ((flatR [] r.1 r.2).map ptD)
theorem flat_ring {r : Pt × List Pc} (h : r.2.length ≤ 100) {acc : List D} (ha : acc.length ≤ 1000) (k : D → M D) : l0_flat_rings (rgD r) (.lst acc) k = k (.lst (acc ++ [flD r])) := by
  unfold l0_flat_rings
  rw [show fLst fNil = M.pure (.lst (List.map ptD [])) from rfl, Pm.pure_bind, show fItems (M.pure (rgD r)) = M.pure (pcD (.inl r.1) :: r.2.map pcD) from rfl, Pm.pure_bind, for_cons, flat_to _ _ (by simp), flat_go _ _ r.2 [] r.1 (by simp; omega), appD (by omega) (show fCB tupF (fCons (M.pure (.lst ((flatR [] r.1 r.2).map ptD))) fNil) = M.pure (flD r) from rfl), Pm.pure_bind]
theorem flat_eq {p : List (Pt × List Pc)} (hp : p.length ≤ 100) (h : ∀ r ∈ p, r.2.length ≤ 100) : m_flat_rings [phD p] = M.pure (.tup (p.map flD)) := by
  show p_flat_rings _ = _
  unfold p_flat_rings
  rw [show fLst fNil = M.pure (.lst []) from rfl, Pm.pure_bind, show fItems (M.pure (phD p)) = M.pure (p.map rgD) from rfl, Pm.pure_bind, for_grow (N := 1000) (v := flD) p [] _ (fun r hr acc k ha => flat_ring (h r hr) ha k) (by simp; omega)]
  rfl
theorem okd_nts' (n : Nat) (l : List Int) : okd (n + 1) (.tup (nts l)) = true := by rw [okd_tup]; simp [nts, okd_int]
/-! ### spots within rings -/
theorem o_eqb (a b : Bool) : eqD (.bl a) (.bl b) = some (.bl (a == b)) := by unfold eqD; rw [if_pos (.inl rfl)]; unfold deq; rfl
def okq (p : Pt) : Prop := (-100000 ≤ p.1 ∧ p.1 ≤ 100000) ∧ -100000 ≤ p.2 ∧ p.2 ≤ 100000
def meetI (a b : Pt) (x y : Int) : Int :=
  if (decide (a.2 < y) == decide (b.2 < y)) = true then 0 else
  if ((decide (0 < (b.1 - a.1) * (y - a.2) - (x - a.1) * (b.2 - a.2)) == decide (a.2 < b.2)) && !((b.1 - a.1) * (y - a.2) - (x - a.1) * (b.2 - a.2) == 0)) = true then (if decide (a.2 < b.2) = true then 1 else -1) else 0
theorem meets_eq {a b : Pt} {x y : Int} (ha : okq a) (hb : okq b) (hq : okq (x, y)) : m_meets [ptD a, ptD b, .int x, .int y] = M.pure (.int (meetI a b x y)) := by
  obtain ⟨a1, a2⟩ := a
  obtain ⟨b1, b2⟩ := b
  simp only [okq] at ha hb hq
  show p_meets _ _ _ _ = _
  unfold p_meets ptD meetI
  simp (config := { maxSteps := 3000000 }) (disch := first | omega | (simp only [List.length_map, List.length_cons, List.length_nil, List.length_append, List.length_replicate, List.length_set, List.length_range, nts_len, List.length_take, List.length_drop]; omega) | kernel_rfl) only [in_int, ng_int, mx_nil, mx_cons, o_ne_self, o_eq_self, ls_lst, Pm.pure_bind, bad_bind, raise_bind, opt_some, opt_none, Pm.bind_assoc, Pm.bind_pure, f_bin, f_nil, f_cons, f_tup, f_lst, f_call, f_cb, f_if, f_of, f_ofv, f_tru, f_andB, f_orB, f_notB, f_and, f_or, f_not, f_neg, f_chain, f_sl, f_ono, f_oso, f_items, f_zip, f_enum, f_rng, f_lc, f_lcf, f_lc2, f_in, f_lz, f_app, f_ext, f_seti, f_isi, f_u2, f_u3, f_u4, i_tup, i_lst, z_tup, z_lst, zl_nil, zl_cons, en_tup, en_lst, en_nil, en_cons, x_nil, x_cons, x_map, x_pure, xf_nil, xf_cons, xc_nil, xc_cons, noEx_pure, o_add, o_sub, o_lt, o_le, o_gt, o_ge, o_eq, o_ne, o_mulL, o_mulR, o_div, o_mod, o_addT, o_addL, o_iadd, Pm.ix_tup, ix_lst, Pm.sl_tup, sl_lst, b_len_t, b_len_l, b_abs, b_int_i, b_int_b, b_sum, b_all, b_any, b_tup_l, b_tup_t, b_lst_l, b_lst_t, b_max2, b_max3, b_min2, b_min3, t_bl, t_int, t_tup, t_lst, t_non, a_app, a_ext, bl_bl, decide_true, decide_false, Bool.not_true, Bool.not_false, if_true, if_false, Bool.false_eq_true, for_nil, for_cons, ls_cons, ls_nil, at0, at1, at2, at3, at4, List.cons_append, List.nil_append, List.length_cons, List.length_nil, List.length_map, n_ot, isi_int', isi_bool', isi_tup', isi_str', dn_non, dn_int, dn_tup, dn_str, dn_bl, dnn_non, dnn_int, dnn_tup, dnn_str, dnn_bl, decide_eq_true_eq, fBin, fCons, fTup, fLst, fCall, fCB, fIf, fOf, fTru, fAndB, fOrB, fNotB, fAnd, fOr, fNot, fNeg, fChain, fSl, fOSo, fItems, fZip, fEnum, fRng, fLC, fLCf, fLC2, fIn, fLz, fApp, fExt, fSetI, fIsi, o_eqb]
  cases h1 : (decide (a2 < y) == decide (b2 < y)) with
  | true => rfl
  | false =>
    simp (config := { maxSteps := 3000000 }) (disch := first | omega | (simp only [List.length_map, List.length_cons, List.length_nil, List.length_append, List.length_replicate, List.length_set, List.length_range, nts_len, List.length_take, List.length_drop]; omega) | kernel_rfl) only [in_int, ng_int, mx_nil, mx_cons, o_ne_self, o_eq_self, ls_lst, Pm.pure_bind, bad_bind, raise_bind, opt_some, opt_none, Pm.bind_assoc, Pm.bind_pure, f_bin, f_nil, f_cons, f_tup, f_lst, f_call, f_cb, f_if, f_of, f_ofv, f_tru, f_andB, f_orB, f_notB, f_and, f_or, f_not, f_neg, f_chain, f_sl, f_ono, f_oso, f_items, f_zip, f_enum, f_rng, f_lc, f_lcf, f_lc2, f_in, f_lz, f_app, f_ext, f_seti, f_isi, f_u2, f_u3, f_u4, i_tup, i_lst, z_tup, z_lst, zl_nil, zl_cons, en_tup, en_lst, en_nil, en_cons, x_nil, x_cons, x_map, x_pure, xf_nil, xf_cons, xc_nil, xc_cons, noEx_pure, o_add, o_sub, o_lt, o_le, o_gt, o_ge, o_eq, o_ne, o_mulL, o_mulR, o_div, o_mod, o_addT, o_addL, o_iadd, Pm.ix_tup, ix_lst, Pm.sl_tup, sl_lst, b_len_t, b_len_l, b_abs, b_int_i, b_int_b, b_sum, b_all, b_any, b_tup_l, b_tup_t, b_lst_l, b_lst_t, b_max2, b_max3, b_min2, b_min3, t_bl, t_int, t_tup, t_lst, t_non, a_app, a_ext, bl_bl, decide_true, decide_false, Bool.not_true, Bool.not_false, if_true, if_false, Bool.false_eq_true, for_nil, for_cons, ls_cons, ls_nil, at0, at1, at2, at3, at4, List.cons_append, List.nil_append, List.length_cons, List.length_nil, List.length_map, n_ot, isi_int', isi_bool', isi_tup', isi_str', dn_non, dn_int, dn_tup, dn_str, dn_bl, dnn_non, dnn_int, dnn_tup, dnn_str, dnn_bl, decide_eq_true_eq, fBin, fCons, fTup, fLst, fCall, fCB, fIf, fOf, fTru, fAndB, fOrB, fNotB, fAnd, fOr, fNot, fNeg, fChain, fSl, fOSo, fItems, fZip, fEnum, fRng, fLC, fLCf, fLC2, fIn, fLz, fApp, fExt, fSetI, fIsi, o_eqb]
    generalize (b1 - a1) * (y - a2) - (x - a1) * (b2 - a2) = sd
    cases h2 : (decide (0 < sd) == decide (a2 < b2)) with
    | false => simp only [if_false, Bool.false_and, in_int, ng_int, mx_nil, mx_cons, o_ne_self, o_eq_self, ls_lst, Pm.pure_bind, bad_bind, raise_bind, opt_some, opt_none, Pm.bind_assoc, Pm.bind_pure, f_bin, f_nil, f_cons, f_tup, f_lst, f_call, f_cb, f_if, f_of, f_ofv, f_tru, f_andB, f_orB, f_notB, f_and, f_or, f_not, f_neg, f_chain, f_sl, f_ono, f_oso, f_items, f_zip, f_enum, f_rng, f_lc, f_lcf, f_lc2, f_in, f_lz, f_app, f_ext, f_seti, f_isi, f_u2, f_u3, f_u4, i_tup, i_lst, z_tup, z_lst, zl_nil, zl_cons, en_tup, en_lst, en_nil, en_cons, x_nil, x_cons, x_map, x_pure, xf_nil, xf_cons, xc_nil, xc_cons, noEx_pure, o_add, o_sub, o_lt, o_le, o_gt, o_ge, o_eq, o_ne, o_mulL, o_mulR, o_div, o_mod, o_addT, o_addL, o_iadd, Pm.ix_tup, ix_lst, Pm.sl_tup, sl_lst, b_len_t, b_len_l, b_abs, b_int_i, b_int_b, b_sum, b_all, b_any, b_tup_l, b_tup_t, b_lst_l, b_lst_t, b_max2, b_max3, b_min2, b_min3, t_bl, t_int, t_tup, t_lst, t_non, a_app, a_ext, bl_bl, decide_true, decide_false, Bool.not_true, Bool.not_false, if_true, if_false, Bool.false_eq_true, for_nil, for_cons, ls_cons, ls_nil, at0, at1, at2, at3, at4, List.cons_append, List.nil_append, List.length_cons, List.length_nil, List.length_map, n_ot, isi_int', isi_bool', isi_tup', isi_str', dn_non, dn_int, dn_tup, dn_str, dn_bl, dnn_non, dnn_int, dnn_tup, dnn_str, dnn_bl, decide_eq_true_eq, fBin, fCons, fTup, fLst, fCall, fCB, fIf, fOf, fTru, fAndB, fOrB, fNotB, fAnd, fOr, fNot, fNeg, fChain, fSl, fOSo, fItems, fZip, fEnum, fRng, fLC, fLCf, fLC2, fIn, fLz, fApp, fExt, fSetI, fIsi]
    | true =>
      cases h3 : (sd == 0) with
      | true => simp only [in_int, ng_int, mx_nil, mx_cons, o_ne_self, o_eq_self, ls_lst, Pm.pure_bind, bad_bind, raise_bind, opt_some, opt_none, Pm.bind_assoc, Pm.bind_pure, f_bin, f_nil, f_cons, f_tup, f_lst, f_call, f_cb, f_if, f_of, f_ofv, f_tru, f_andB, f_orB, f_notB, f_and, f_or, f_not, f_neg, f_chain, f_sl, f_ono, f_oso, f_items, f_zip, f_enum, f_rng, f_lc, f_lcf, f_lc2, f_in, f_lz, f_app, f_ext, f_seti, f_isi, f_u2, f_u3, f_u4, i_tup, i_lst, z_tup, z_lst, zl_nil, zl_cons, en_tup, en_lst, en_nil, en_cons, x_nil, x_cons, x_map, x_pure, xf_nil, xf_cons, xc_nil, xc_cons, noEx_pure, o_add, o_sub, o_lt, o_le, o_gt, o_ge, o_eq, o_ne, o_mulL, o_mulR, o_div, o_mod, o_addT, o_addL, o_iadd, Pm.ix_tup, ix_lst, Pm.sl_tup, sl_lst, b_len_t, b_len_l, b_abs, b_int_i, b_int_b, b_sum, b_all, b_any, b_tup_l, b_tup_t, b_lst_l, b_lst_t, b_max2, b_max3, b_min2, b_min3, t_bl, t_int, t_tup, t_lst, t_non, a_app, a_ext, bl_bl, decide_true, decide_false, Bool.not_true, Bool.not_false, if_true, if_false, Bool.false_eq_true, for_nil, for_cons, ls_cons, ls_nil, at0, at1, at2, at3, at4, List.cons_append, List.nil_append, List.length_cons, List.length_nil, List.length_map, n_ot, isi_int', isi_bool', isi_tup', isi_str', dn_non, dn_int, dn_tup, dn_str, dn_bl, dnn_non, dnn_int, dnn_tup, dnn_str, dnn_bl, decide_eq_true_eq, fBin, fCons, fTup, fLst, fCall, fCB, fIf, fOf, fTru, fAndB, fOrB, fNotB, fAnd, fOr, fNot, fNeg, fChain, fSl, fOSo, fItems, fZip, fEnum, fRng, fLC, fLCf, fLC2, fIn, fLz, fApp, fExt, fSetI, fIsi, Bool.true_and]
      | false =>
        simp only [in_int, ng_int, mx_nil, mx_cons, o_ne_self, o_eq_self, ls_lst, Pm.pure_bind, bad_bind, raise_bind, opt_some, opt_none, Pm.bind_assoc, Pm.bind_pure, f_bin, f_nil, f_cons, f_tup, f_lst, f_call, f_cb, f_if, f_of, f_ofv, f_tru, f_andB, f_orB, f_notB, f_and, f_or, f_not, f_neg, f_chain, f_sl, f_ono, f_oso, f_items, f_zip, f_enum, f_rng, f_lc, f_lcf, f_lc2, f_in, f_lz, f_app, f_ext, f_seti, f_isi, f_u2, f_u3, f_u4, i_tup, i_lst, z_tup, z_lst, zl_nil, zl_cons, en_tup, en_lst, en_nil, en_cons, x_nil, x_cons, x_map, x_pure, xf_nil, xf_cons, xc_nil, xc_cons, noEx_pure, o_add, o_sub, o_lt, o_le, o_gt, o_ge, o_eq, o_ne, o_mulL, o_mulR, o_div, o_mod, o_addT, o_addL, o_iadd, Pm.ix_tup, ix_lst, Pm.sl_tup, sl_lst, b_len_t, b_len_l, b_abs, b_int_i, b_int_b, b_sum, b_all, b_any, b_tup_l, b_tup_t, b_lst_l, b_lst_t, b_max2, b_max3, b_min2, b_min3, t_bl, t_int, t_tup, t_lst, t_non, a_app, a_ext, bl_bl, decide_true, decide_false, Bool.not_true, Bool.not_false, if_true, if_false, Bool.false_eq_true, for_nil, for_cons, ls_cons, ls_nil, at0, at1, at2, at3, at4, List.cons_append, List.nil_append, List.length_cons, List.length_nil, List.length_map, n_ot, isi_int', isi_bool', isi_tup', isi_str', dn_non, dn_int, dn_tup, dn_str, dn_bl, dnn_non, dnn_int, dnn_tup, dnn_str, dnn_bl, decide_eq_true_eq, fBin, fCons, fTup, fLst, fCall, fCB, fIf, fOf, fTru, fAndB, fOrB, fNotB, fAnd, fOr, fNot, fNeg, fChain, fSl, fOSo, fItems, fZip, fEnum, fRng, fLC, fLCf, fLC2, fIn, fLz, fApp, fExt, fSetI, fIsi, Bool.true_and]
        by_cases q : a2 < b2
        · rw [if_pos q, if_pos q]
        · rw [if_neg q, if_neg q]
def rD (r : List Pt) : D := .tup (r.map ptD)
def pairsOf (r : List Pt) : List (Pt × Pt) := r.zip (r.drop 1 ++ r.take 1)
def metOf (r : List Pt) (x y : Int) : List Int := (pairsOf r).map fun p => meetI p.1 p.2 x y
theorem zipL_map {α β : Type} (f : α → D) (g : β → D) : ∀ (l : List α) (m : List β), zipL (l.map f) (m.map g) = (l.zip m).map fun p => .tup [f p.1, g p.2]
  | [], _ => rfl
  | _ :: _, [] => rfl
  | x :: l, y :: m => by rw [List.map_cons, List.map_cons, zl_cons, zipL_map f g l m]; rfl
theorem zip_mem {α β : Type} : ∀ {l : List α} {m : List β} {p : α × β}, p ∈ l.zip m → p.1 ∈ l ∧ p.2 ∈ m := fun {l m p} h => List.of_mem_zip (a := p.1) (b := p.2) h
theorem ring_met {r : List Pt} {x y : Int} {rule : D} {acc : List Int} (hr : r.length ≤ 1000) (hp : ∀ p ∈ r, okq p) (hq : okq (x, y)) (ha : acc.length ≤ 10000) (k : D → M D) : l0_is_within (.int x) (.int y) rule (rD r) (.lst (nts acc)) k = k (.lst (nts (acc ++ metOf r x y))) := by
  unfold l0_is_within rD
  have e1 : fBin addD (fSl (M.pure (.tup (r.map ptD))) (fOSo (M.pure (D.int 1))) fONo) (fSl (M.pure (.tup (r.map ptD))) fONo (fOSo (M.pure (D.int 1)))) = M.pure (.tup ((r.drop 1 ++ r.take 1).map ptD)) := by
    rw [f_oso, f_ono, f_sl, f_sl, Pm.sl_tup, Pm.sl_tup, opt_some, opt_some, f_bin, show cutL (r.map ptD) (some 1) none = (r.map ptD).drop 1 from cut_lo _ 1, show cutL (r.map ptD) none (some 1) = (r.map ptD).take 1 from cut_hi _ 1, o_addT (by simp; omega), List.map_append, List.map_drop, List.map_take]
    rfl
  rw [e1, f_nil, f_cons, f_cons, f_zip, z_tup, opt_some, zipL_map, f_lc]
  rw [map_of (g := fun p : Pt × Pt => .int (meetI p.1 p.2 x y)) (fun p hp' => by
    obtain ⟨m1, m2⟩ := zip_mem hp'
    rw [f_u2, f_cons, f_cons, f_cons, f_cons, f_call]
    refine meets_eq (hp _ m1) (hp _ ?_) hq
    rcases List.mem_append.mp m2 with z | z
    · exact List.mem_of_mem_drop z
    · exact List.mem_of_mem_take z)]
  have e2 : ((r.zip (r.drop 1 ++ r.take 1)).map fun p : Pt × Pt => D.int (meetI p.1 p.2 x y)) = nts (metOf r x y) := by unfold metOf pairsOf nts; rw [List.map_map]; rfl
  have e3 : (metOf r x y).length ≤ 1000 := by unfold metOf pairsOf; rw [List.length_map, List.length_zip]; omega
  rw [Pm.pure_bind, e2, f_ext, a_ext (by rw [nts_len, nts_len]; omega), opt_some, Pm.pure_bind, nts_app]
def metAll (rs : List (List Pt)) (x y : Int) : List Int := rs.flatMap fun r => metOf r x y
theorem rings_met {x y : Int} {rule : D} (hq : okq (x, y)) (k : D → M D) : ∀ (rs : List (List Pt)) (acc : List Int), (∀ r ∈ rs, r.length ≤ 1000 ∧ ∀ p ∈ r, okq p) → acc.length + 1000 * rs.length ≤ 10000 → fFor (l0_is_within (.int x) (.int y) rule) (rs.map rD) (.lst (nts acc)) k = k (.lst (nts (acc ++ metAll rs x y)))
  | [], acc, _, _ => by rw [List.map_nil, for_nil]; simp [metAll]
  | r :: rs, acc, h, hl => by
    obtain ⟨h1, h2⟩ := h r List.mem_cons_self
    simp only [List.length_cons] at hl
    have e3 : (metOf r x y).length ≤ 1000 := by unfold metOf pairsOf; rw [List.length_map, List.length_zip]; omega
    rw [List.map_cons, for_cons, ring_met h1 h2 hq (by omega), rings_met hq k rs _ (fun q hq => h q (List.mem_cons_of_mem _ hq)) (by rw [List.length_append]; omega)]
    congr 3
    simp [metAll, List.append_assoc]
def within (rs : List (List Pt)) (odd : Bool) (x y : Int) : Bool := if odd then (((((metAll rs x y).filter fun i => !(i == 0)).length : Nat) : Int) % 2 == 1) else !((metAll rs x y).sum == 0)
def ruleS (odd : Bool) : Str := if odd then "odd" else "wound"
theorem fm_filter {α : Type} (p : α → Bool) (d : D) (l : List α) : l.filterMap (fun i => if p i = true then some d else none) = (l.filter p).map fun _ => d := by
  induction l with
  | nil => rfl
  | cons i l ih => cases h : p i <;> simp [List.filterMap_cons, List.filter_cons, h, ih]
theorem flt_one (l : List Int) : fLCf (fItems (M.pure (.lst (nts l)))) (fun one_ => fIf (fOf (fBin neD (M.pure one_) (M.pure (D.int 0)))) (M.bind (M.pure (D.int 1)) fun y_ => M.pure (some y_)) (M.pure none)) = M.pure (.lst ((l.filter fun i => !(i == 0)).map fun _ => .int 1)) := by
  rw [f_items, i_lst, opt_some, f_lcf]
  unfold nts
  rw [flt_of (g := fun i : Int => if (!(i == 0)) = true then some (.int 1) else none) (fun i _ => by
    rw [f_bin, o_ne, opt_some, f_of, f_if]
    cases (!(i == 0)) <;> rfl)]
  rw [Pm.pure_bind]
  rw [fm_filter (fun i : Int => !(i == 0))]
theorem within_eq {rs : List (List Pt)} {x y : Int} (odd : Bool) (hn : rs.length ≤ 10) (h : ∀ r ∈ rs, r.length ≤ 1000 ∧ ∀ p ∈ r, okq p) (hq : okq (x, y)) : m_is_within [.lst (rs.map rD), .int x, .int y, .str (ruleS odd)] = M.pure (.bl (within rs odd x y)) := by
  show p_is_within _ _ _ _ = _
  unfold p_is_within
  rw [show fLst fNil = M.pure (.lst (nts [])) from rfl, Pm.pure_bind, f_items, i_lst, opt_some, Pm.pure_bind, rings_met hq _ rs [] h (by simp; omega), List.nil_append, f_bin, eq_strs, opt_some, f_of, f_if]
  unfold within
  cases odd with
  | true =>
    rw [if_pos (show (ruleS true == ("odd" : Str)) = true by decide), if_pos rfl, flt_one, f_nil, f_cons, f_cb, b_len_l, opt_some, f_bin, o_mod (by decide), opt_some, f_bin, o_eq, List.length_map]
    rfl
  | false =>
    rw [if_neg (show ¬ (ruleS false == ("odd" : Str)) = true by decide), if_neg (by decide), f_nil, f_cons, f_cb, b_sum]
    unfold nts
    rw [intsOf_map]
    show fBin neD (M.pure (.int _)) _ = _
    rw [f_bin, o_ne]
    rfl
/-! ### masks of spots -/
def spotsOf (x y : Int) : List Pt := [(8 * x + 2 * 0 + 1, 8 * y + 2 * 0 + 1), (8 * x + 2 * 1 + 1, 8 * y + 2 * 0 + 1), (8 * x + 2 * 2 + 1, 8 * y + 2 * 0 + 1), (8 * x + 2 * 3 + 1, 8 * y + 2 * 0 + 1),
  (8 * x + 2 * 0 + 1, 8 * y + 2 * 1 + 1), (8 * x + 2 * 1 + 1, 8 * y + 2 * 1 + 1), (8 * x + 2 * 2 + 1, 8 * y + 2 * 1 + 1), (8 * x + 2 * 3 + 1, 8 * y + 2 * 1 + 1),
  (8 * x + 2 * 0 + 1, 8 * y + 2 * 2 + 1), (8 * x + 2 * 1 + 1, 8 * y + 2 * 2 + 1), (8 * x + 2 * 2 + 1, 8 * y + 2 * 2 + 1), (8 * x + 2 * 3 + 1, 8 * y + 2 * 2 + 1),
  (8 * x + 2 * 0 + 1, 8 * y + 2 * 3 + 1), (8 * x + 2 * 1 + 1, 8 * y + 2 * 3 + 1), (8 * x + 2 * 2 + 1, 8 * y + 2 * 3 + 1), (8 * x + 2 * 3 + 1, 8 * y + 2 * 3 + 1)]
def cntS (t : Int → Int → Bool) (x y : Int) : Int := (((spotsOf x y).filter fun p => t p.1 p.2).length : Nat)
def maskL (t : Int → Int → Bool) (w h : Nat) : List Int := (List.range h).flatMap fun (y : Nat) => (List.range w).map fun (x : Nat) => rnd (255 * cntS t x y) 16
theorem rng4 : fRng (fCons (M.pure (D.int 4)) fNil) = M.pure [.int 0, .int 1, .int 2, .int 3] := by
  show M.opt (rngF [.int 4]) = _
  rw [rng_A (by decide) (by decide)]
  rfl
theorem spots_all (x y : Int) : fLC2 (fRng (fCons (M.pure (D.int 4)) fNil)) (fun dy_ => (fIn (fRng (fCons (M.pure (D.int 4)) fNil)) fun dx_ => (fTup (fCons (fBin addD (fBin addD (fBin mulD (M.pure (D.int 8)) (M.pure (.int x))) (fBin mulD (M.pure (D.int 2)) (M.pure dx_))) (M.pure (D.int 1))) (fCons (fBin addD (fBin addD (fBin mulD (M.pure (D.int 8)) (M.pure (.int y))) (fBin mulD (M.pure (D.int 2)) (M.pure dy_))) (M.pure (D.int 1))) fNil))))) = M.pure (.lst ((spotsOf x y).map ptD)) := by
  have m8 : ∀ z : Int, fBin mulD (M.pure (D.int 8)) (M.pure (.int z)) = M.pure (.int (8 * z)) := fun z => by rw [f_bin, o_mulL (by decide) (by decide)]; rfl
  have m2 : ∀ z : Int, fBin mulD (M.pure (D.int 2)) (M.pure (.int z)) = M.pure (.int (2 * z)) := fun z => by rw [f_bin, o_mulL (by decide) (by decide)]; rfl
  rw [rng4, m8, m8]
  simp only [f_lc2, xc_cons, xc_nil, f_in, x_cons, x_nil, m2]
  rfl
theorem spot_cnt {L : Lams} {k : Nat} {ds : List D} {t : Int → Int → Bool} (l : List Pt) (hl : ∀ p ∈ l, L.sm k ds [.int p.1, .int p.2] = M.pure (.bl (t p.1 p.2))) (hps : (L.tx k).ps.length = 2) (hds : ds.all (okd 40) = true) : fLCf (fItems (M.pure (.lst (l.map ptD)))) (fun it1_ => (fU2 it1_ fun across_ down_ => fIf (fTru (fCF L (M.pure (.fn k (L.tx k) ds)) (fCons (M.pure across_) (fCons (M.pure down_) fNil)))) (M.bind (M.pure (D.int 1)) fun y_ => M.pure (some y_)) (M.pure none))) = M.pure (.lst ((l.filter fun p => t p.1 p.2).map fun _ => .int 1)) := by
  rw [f_items, i_lst, opt_some, f_lcf]
  rw [flt_of (g := fun p : Pt => if t p.1 p.2 = true then some (.int 1) else none) (fun p hp => by
    have ho : (ds ++ [D.int p.1, .int p.2]).all (okd 40) = true ∧ [D.int p.1, D.int p.2].length = (L.tx k).ps.length := ⟨by rw [List.all_append, hds]; simp [okd_int], by rw [hps]; rfl⟩
    rw [show ptD p = .tup [.int p.1, .int p.2] from rfl, f_u2, fCF_fn, f_nil, f_cons, f_cons, Pm.pure_bind, if_pos ho, hl p hp, noEx_pure, f_tru, t_bl, opt_some, f_if]
    cases t p.1 p.2 <;> rfl)]
  rw [Pm.pure_bind]
  rw [fm_filter (fun p : Pt => t p.1 p.2)]
theorem spot_cell {L : Lams} {k : Nat} {ds : List D} {t : Int → Int → Bool} {x y : Int} (wd hd : D) (hl : ∀ p ∈ spotsOf x y, L.sm k ds [.int p.1, .int p.2] = M.pure (.bl (t p.1 p.2))) (hps : (L.tx k).ps.length = 2) (hds : ds.all (okd 40) = true) {acc : List Int} (ha : acc.length ≤ 1000000) (kk : D → M D) :
    l1_spots_mask L wd hd (.fn k (L.tx k) ds) (.int y) (.int x) (.lst (nts acc)) kk = kk (.lst (nts (acc ++ [rnd (255 * cntS t x y) 16]))) := by
  unfold l1_spots_mask
  rw [spots_all, Pm.pure_bind, spot_cnt _ hl hps hds, f_nil, f_cons, f_cb, b_len_l, opt_some, List.length_map, f_bin, o_mulL (by decide) (by decide), opt_some, f_cons, f_cons, f_call, rounded_eq (by decide) (by decide), f_app, a_app (by rw [nts_len]; omega), opt_some, Pm.pure_bind]
  congr 2
  unfold nts
  rw [List.map_append]
  rfl
theorem for_nts {body : D → D → (D → M D) → M D} {α : Type} {E : α → D} {v : α → List Int} {N : Nat} (hN : ∀ x, (v x).length ≤ 1000) : ∀ (l : List α) (acc : List Int) (k : D → M D), (∀ x ∈ l, ∀ acc k, acc.length ≤ N → body (E x) (.lst (nts acc)) k = k (.lst (nts (acc ++ v x)))) → acc.length + 1000 * l.length ≤ N → fFor body (l.map E) (.lst (nts acc)) k = k (.lst (nts (acc ++ l.flatMap v)))
  | [], acc, k, _, _ => by rw [List.map_nil, for_nil]; simp
  | x :: l, acc, k, h, hl => by
    simp only [List.length_cons] at hl
    have := hN x
    rw [List.map_cons, for_cons, h x List.mem_cons_self acc _ (by omega), for_nts hN l _ k (fun y hy => h y (List.mem_cons_of_mem _ hy)) (by rw [List.length_append]; omega)]
    congr 3
    simp [List.append_assoc]
theorem spots_bd {x y : Nat} {p : Pt} (hx : x ≤ 99) (hy : y ≤ 99) (h : p ∈ spotsOf x y) : (0 ≤ p.1 ∧ p.1 ≤ 800) ∧ 0 ≤ p.2 ∧ p.2 ≤ 800 := by
  unfold spotsOf at h
  simp only [List.mem_cons, List.not_mem_nil, or_false] at h
  rcases h with rfl | rfl | rfl | rfl | rfl | rfl | rfl | rfl | rfl | rfl | rfl | rfl | rfl | rfl | rfl | rfl <;> simp only <;> omega
theorem spots_eq {L : Lams} {k : Nat} {ds : List D} (t : Int → Int → Bool) {w h : Nat} (hw : w ≤ 99) (hh : h ≤ 99) (hl : ∀ x y : Int, 0 ≤ x → x ≤ 800 → 0 ≤ y → y ≤ 800 → L.sm k ds [.int x, .int y] = M.pure (.bl (t x y))) (hps : (L.tx k).ps.length = 2) (hds : ds.all (okd 40) = true) : m_spots_mask L [.int w, .int h, .fn k (L.tx k) ds] = M.pure (.tup [.int w, .int h, .tup (nts (maskL t w h))]) := by
  show p_spots_mask L _ _ _ = _
  unfold p_spots_mask
  have rg : ∀ n : Nat, n ≤ 99 → fRng (fCons (M.pure (.int n)) fNil) = M.pure ((List.range n).map fun (i : Nat) => D.int i) := fun n hn => by
    show M.opt (rngF [.int n]) = _
    rw [rng_A (by omega) (by omega)]
    rfl
  rw [show fLst fNil = M.pure (.lst (nts [])) from rfl, Pm.pure_bind, rg h hh, Pm.pure_bind]
  rw [for_nts (N := 500000) (v := fun y : Nat => (List.range w).map fun (x : Nat) => rnd (255 * cntS t x y) 16) (fun y => by rw [List.length_map, List.length_range]; omega) (List.range h) [] _ (fun y hy acc kk ha => by
    have hy := List.mem_range.mp hy
    unfold l0_spots_mask
    rw [rg w hw, Pm.pure_bind, for_nts (N := 1000000) (v := fun x : Nat => [rnd (255 * cntS t x y) 16]) (fun x => by simp) (List.range w) acc _ (fun x hx acc kk ha => by
      have hx := List.mem_range.mp hx
      exact spot_cell _ _ (fun p hp => by
        obtain ⟨h1, h2⟩ := spots_bd (by omega) (by omega) hp
        exact hl _ _ h1.1 h1.2 h2.1 h2.2) hps hds ha kk) (by rw [List.length_range]; omega)]
    congr 3
    congr 1
    induction List.range w with
    | nil => rfl
    | cons x l ih => simp [ih]) (by rw [List.length_range]; simp; omega)]
  rw [List.nil_append]
  rfl
/-! ### covered -/
def dbl (q : Pt) : Pt := (2 * q.1, 2 * q.2)
def ringsOf (p : List (Pt × List Pc)) : List (List Pt) := p.map fun r => (flatR [] r.1 r.2).map dbl
theorem dbl_ring (l : List Pt) : fCB tupF (fCons (fLC (fItems (M.pure (.tup (l.map ptD)))) fun it1_ => (fU2 it1_ fun x_ y_ => (fTup (fCons (fBin mulD (M.pure (D.int 2)) (M.pure x_)) (fCons (fBin mulD (M.pure (D.int 2)) (M.pure y_)) fNil))))) fNil) = M.pure (rD (l.map dbl)) := by
  rw [f_items, i_tup, opt_some, f_lc, map_of (g := fun q : Pt => ptD (dbl q)) (fun q _ => by
    rw [show ptD q = .tup [.int q.1, .int q.2] from rfl, f_u2, f_bin, f_bin, o_mulL (by decide) (by decide), o_mulL (by decide) (by decide)]
    rfl)]
  unfold rD
  rw [List.map_map]
  rfl
theorem okd_rD (r : List Pt) : okd 39 (rD r) = true := by
  unfold rD
  rw [okd_tup, List.all_eq_true]
  intro x hx
  obtain ⟨p, _, rfl⟩ := List.mem_map.mp hx
  show okd 38 (.tup [.int p.1, .int p.2]) = true
  rw [okd_tup]; simp [okd_int]
theorem okd_rule (odd : Bool) : okd 40 (.str (ruleS odd)) = true := by cases odd <;> kernel_rfl
theorem covered_eq {L : Lams} {p : List (Pt × List Pc)} {w h : Nat} (odd : Bool) (hsm : ∀ a b c d, L.sm 0 [a, b] [c, d] = m_is_within [b, c, d, a]) (hps : (L.tx 0).ps.length = 2) (hw : w ≤ 99) (hh : h ≤ 99) (hp : p.length ≤ 10) (h1 : ∀ r ∈ p, r.2.length ≤ 100) (h2 : ∀ r ∈ ringsOf p, r.length ≤ 1000 ∧ ∀ q ∈ r, okq q) :
    m_covered L [phD p, .int w, .int h, .str (ruleS odd)] = M.pure (.tup [.int w, .int h, .tup (nts (maskL (within (ringsOf p) odd) w h))]) := by
  show p_covered L _ _ _ _ = _
  unfold p_covered
  have n1 : fOf (fBin ninD (M.pure (.str (ruleS odd))) (fTup (fCons (M.pure (D.str "odd")) (fCons (M.pure (D.str "wound")) fNil)))) = M.pure false := by cases odd <;> kernel_rfl
  rw [n1, f_if, if_neg (by decide), show fCall m_flat_rings (fCons (M.pure (phD p)) fNil) = m_flat_rings [phD p] from rfl, flat_eq (by omega) h1, f_items, i_tup, opt_some, f_lc, map_of (g := fun r : Pt × List Pc => rD ((flatR [] r.1 r.2).map dbl)) (fun r _ => dbl_ring _)]
  rw [Pm.pure_bind, Pm.pure_bind]
  have e : (p.map fun r : Pt × List Pc => rD ((flatR [] r.1 r.2).map dbl)) = (ringsOf p).map rD := by unfold ringsOf; rw [List.map_map]; rfl
  rw [e]
  unfold fCalL
  rw [f_nil, f_cons, f_cons, f_cons, f_cons, Pm.pure_bind, Pm.pure_bind]
  have hds : [D.str (ruleS odd), .lst ((ringsOf p).map rD)].all (okd 40) = true := by
    rw [List.all_cons, okd_rule, List.all_cons, okd_lst]
    simp only [List.all_nil, Bool.and_true, Bool.true_and, List.all_eq_true]
    intro x hx
    obtain ⟨r, _, rfl⟩ := List.mem_map.mp hx
    exact okd_rD r
  rw [show ([D.int w, .int h] ++ [D.fn 0 (L.tx 0) [.str (ruleS odd), .lst ((ringsOf p).map rD)]]) = [.int w, .int h, .fn 0 (L.tx 0) [.str (ruleS odd), .lst ((ringsOf p).map rD)]] from rfl,
    spots_eq (within (ringsOf p) odd) hw hh (fun x y a1 a2 a3 a4 => by rw [hsm]; exact within_eq odd (by unfold ringsOf; rw [List.length_map]; exact hp) h2 ⟨⟨by simp only; omega, by simp only; omega⟩, by simp only; omega, by simp only; omega⟩) hps hds, noEx_pure, Pm.pure_bind, if_pos]
  rw [okd_tup]
  simp only [List.all_cons, okd_int, List.all_nil, Bool.and_true, Bool.true_and]
  exact okd_nts' 38 _
end Pm
end
noncomputable section
namespace Pm
open PySem
def p_is_near (one_ : D) (other_ : D) (x_ : D) (y_ : D) (wide_ : D) : M D :=
  (M.bind (fBin subD (fBin ixD (M.pure other_) (M.pure (D.int 0))) (fBin ixD (M.pure one_) (M.pure (D.int 0)))) fun dx_ => (M.bind (fBin subD (fBin ixD (M.pure other_) (M.pure (D.int 1))) (fBin ixD (M.pure one_) (M.pure (D.int 1)))) fun dy_ => 
  (M.bind (fBin addD (fBin mulD (fBin subD (M.pure x_) (fBin ixD (M.pure one_) (M.pure (D.int 0)))) (M.pure dx_)) (fBin mulD (fBin subD (M.pure y_) (fBin ixD (M.pure one_) (M.pure (D.int 1)))) (M.pure dy_))) fun along_ => (M.bind (fBin addD (fBin mulD (M.pure dx_) (M.pure dx_)) (fBin mulD (M.pure dy_) (M.pure dy_))) fun size_ => 
  (fIf (fAndB (fOf (fChain leD leD (M.pure (D.int 0)) (M.pure along_) (M.pure size_))) (fOf (fBin gtD (M.pure size_) (M.pure (D.int 0)))))
  (M.bind (fBin subD (fBin mulD (fBin subD (M.pure x_) (fBin ixD (M.pure one_) (M.pure (D.int 0)))) (M.pure dy_)) (fBin mulD (fBin subD (M.pure y_) (fBin ixD (M.pure one_) (M.pure (D.int 1)))) (M.pure dx_))) fun apart_ =>
  (fBin leD (fBin mulD (M.pure apart_) (M.pure apart_)) (fBin mulD (fBin mulD (M.pure wide_) (M.pure wide_)) (M.pure size_))))
  (M.bind (fLC (fItems (fTup (fCons (M.pure one_) (fCons (M.pure other_) fNil)))) fun end_ => (fBin addD (fBin mulD (fBin subD (M.pure x_) (fBin ixD (M.pure end_) (M.pure (D.int 0)))) (fBin subD (M.pure x_) (fBin ixD (M.pure end_) (M.pure (D.int 0))))) (fBin mulD (fBin subD (M.pure y_) (fBin ixD (M.pure end_) (M.pure (D.int 1)))) (fBin subD (M.pure y_) (fBin ixD (M.pure end_) (M.pure (D.int 1))))))) fun ends_ =>
  (fBin leD (fCB minF (fCons (M.pure ends_) fNil)) (fBin mulD (M.pure wide_) (M.pure wide_)))))))))
def m_is_near : Mf := fun ds => match ds with
  | [one_, other_, x_, y_, wide_] => p_is_near one_ other_ x_ y_ wide_
  | _ => M.bad
def p_stroked (L_ : Lams) (points_ : D) (wide_ : D) (width_ : D) (height_ : D) : M D :=
  (M.bind (fLC (fItems (M.pure points_)) fun it1_ => (fU2 it1_ fun x_ y_ => (fTup (fCons (fBin mulD (M.pure (D.int 2)) (M.pure x_)) (fCons (fBin mulD (M.pure (D.int 2)) (M.pure y_)) fNil))))) fun spots_ =>
  (M.bind (fLz (fCons (M.pure spots_) (fCons (fIf (fOf (fBin gtD (fCB lenF (fCons (M.pure spots_) fNil)) (M.pure (D.int 1)))) (fSl (M.pure spots_) (fOSo (M.pure (D.int 1))) fONo) (M.pure spots_)) fNil))) fun rows_ =>
  (fCalL (m_spots_mask L_) 0 (L_.tx 0) (fCons (M.pure wide_) (fCons (M.pure rows_) fNil)) (fCons (M.pure width_) (fCons (M.pure height_) fNil)))))
def m_stroked (L_ : Lams) : Mf := fun ds => match ds with
  | [points_, wide_, width_, height_] => p_stroked L_ points_ wide_ width_ height_
  | _ => M.bad
/-! ### sums over spots -/
def bI (b : Bool) : Int := if b = true then 1 else 0
theorem len_flt {α : Type} (f : α → Bool) : ∀ l : List α, ((l.filter f).length : Int) = (l.map fun p => bI (f p)).sum
  | [] => rfl
  | x :: l => by
    have ih := len_flt f l
    unfold bI at ih ⊢
    cases h : f x <;> simp [List.filter_cons, h] <;> omega
theorem for_sum {body : D → D → (D → M D) → M D} {v : Nat → Int} : ∀ (l : List Nat) (m : Int) (k : D → M D), (∀ i ∈ l, ∀ m kk, body (.int i) (.int m) kk = kk (.int (m + v i))) → fFor body (l.map fun (i : Nat) => D.int i) (.int m) k = k (.int (m + (l.map v).sum))
  | [], m, k, _ => by rw [List.map_nil, for_nil, List.map_nil, List.sum_nil, Int.add_zero]
  | i :: l, m, k, h => by rw [List.map_cons, for_cons, h i List.mem_cons_self, for_sum l _ k fun j hj => h j (List.mem_cons_of_mem _ hj), List.map_cons, List.sum_cons, Int.add_assoc]
def spotI (t : Int → Int → Bool) (sx sy : Int) (i : Nat) : Int := bI (t (sx * 8 + (i : Int) % 4 * 2 + 1) (sy * 8 + (i : Int) / 4 * 2 + 1))
theorem cnt_law (t : Int → Int → Bool) (sx sy : Int) : ((List.range 16).map (spotI t sx sy)).sum = cntS t sx sy := by
  unfold cntS
  rw [len_flt]
  have e : (List.range 16).map (spotI t sx sy) = (spotsOf sx sy).map fun p => bI (t p.1 p.2) := by
    have q : ∀ a : Int, sx * 8 + a * 2 + 1 = 8 * sx + 2 * a + 1 := fun a => by omega
    have q' : ∀ a : Int, sy * 8 + a * 2 + 1 = 8 * sy + 2 * a + 1 := fun a => by omega
    unfold spotI
    simp only [q, q']
    rfl
  rw [e]
theorem mask_flat (t : Int → Int → Bool) {w : Nat} (hw : 0 < w) : ∀ h : Nat, maskL t w h = (List.range (w * h)).map fun (i : Nat) => rnd (255 * cntS t ((i : Int) % (w : Int)) ((i : Int) / (w : Int))) 16
  | 0 => rfl
  | h + 1 => by
    have ih := mask_flat t hw h
    unfold maskL at ih ⊢
    rw [List.range_succ, List.flatMap_append, ih, Nat.mul_succ, List.range_add, List.map_append]
    congr 1
    rw [List.flatMap_cons, List.flatMap_nil, List.append_nil, List.map_map]
    refine List.map_congr_left fun x hx => ?_
    have hx := List.mem_range.mp hx
    show _ = rnd (255 * cntS t (((w * h + x : Nat) : Int) % (w : Int)) (((w * h + x : Nat) : Int) / (w : Int))) 16
    have z1 : ((w * h + x : Nat) : Int) % (w : Int) = (x : Int) := by
      have q : (w * h + x) % w = x := by rw [Nat.mul_add_mod, Nat.mod_eq_of_lt hx]
      exact_mod_cast congrArg (Nat.cast (R := Int)) q
    have z2 : ((w * h + x : Nat) : Int) / (w : Int) = (h : Int) := by
      have q : (w * h + x) / w = h := by rw [Nat.mul_add_div hw, Nat.div_eq_of_lt hx, Nat.add_zero]
      exact_mod_cast congrArg (Nat.cast (R := Int)) q
    rw [z1, z2]
/-! ### near a line -/
theorem o_ixp0 (a : Pt) : fBin ixD (M.pure (ptD a)) (M.pure (D.int 0)) = M.pure (.int a.1) := rfl
theorem o_ixp1 (a : Pt) : fBin ixD (M.pure (ptD a)) (M.pure (D.int 1)) = M.pure (.int a.2) := rfl
def okn (p : Pt) : Prop := (-2000 ≤ p.1 ∧ p.1 ≤ 2000) ∧ -2000 ≤ p.2 ∧ p.2 ≤ 2000
def nearB (a b : Pt) (x y w : Int) : Bool :=
  if (0 ≤ (x - a.1) * (b.1 - a.1) + (y - a.2) * (b.2 - a.2) ∧ (x - a.1) * (b.1 - a.1) + (y - a.2) * (b.2 - a.2) ≤ (b.1 - a.1) * (b.1 - a.1) + (b.2 - a.2) * (b.2 - a.2)) ∧ 0 < (b.1 - a.1) * (b.1 - a.1) + (b.2 - a.2) * (b.2 - a.2) then
    decide (((x - a.1) * (b.2 - a.2) - (y - a.2) * (b.1 - a.1)) * ((x - a.1) * (b.2 - a.2) - (y - a.2) * (b.1 - a.1)) ≤ w * w * ((b.1 - a.1) * (b.1 - a.1) + (b.2 - a.2) * (b.2 - a.2)))
  else decide (min ((x - a.1) * (x - a.1) + (y - a.2) * (y - a.2)) ((x - b.1) * (x - b.1) + (y - b.2) * (y - b.2)) ≤ w * w)
theorem mul_in {p q A B : Int} (h1 : -A ≤ p ∧ p ≤ A) (h2 : -B ≤ q ∧ q ≤ B) : -(A * B) ≤ p * q ∧ p * q ≤ A * B := by
  have hA : 0 ≤ A := by omega
  have hB : 0 ≤ B := by omega
  have a1 : 0 ≤ (A - p) * (B + q) := Int.mul_nonneg (by omega) (by omega)
  have a2 : 0 ≤ (A + p) * (B - q) := Int.mul_nonneg (by omega) (by omega)
  have a3 : 0 ≤ (A - p) * (B - q) := Int.mul_nonneg (by omega) (by omega)
  have a4 : 0 ≤ (A + p) * (B + q) := Int.mul_nonneg (by omega) (by omega)
  simp only [Int.sub_mul, Int.add_mul, Int.mul_sub, Int.mul_add] at a1 a2 a3 a4
  omega
theorem near_eq {a b : Pt} {x y w : Int} (ha : okn a) (hb : okn b) (hq : okn (x, y)) (hw : 0 ≤ w ∧ w ≤ 1000) : m_is_near [ptD a, ptD b, .int x, .int y, .int w] = M.pure (.bl (nearB a b x y w)) := by
  obtain ⟨a1, a2⟩ := a
  obtain ⟨b1, b2⟩ := b
  simp only [okn] at ha hb hq
  show p_is_near _ _ _ _ _ = _
  unfold p_is_near nearB
  have m1 := mul_in (p := x - a1) (q := b2 - a2) (A := 4000) (B := 4000) (by omega) (by omega)
  have m2 := mul_in (p := y - a2) (q := b1 - a1) (A := 4000) (B := 4000) (by omega) (by omega)
  have m3 := mul_in (p := w) (q := w) (A := 1000) (B := 1000) (by omega) (by omega)
  rw [o_ixp0, o_ixp0, o_ixp1, o_ixp1]
  simp only []
  have e : fItems (fTup (fCons (M.pure (ptD (a1, a2))) (fCons (M.pure (ptD (b1, b2))) fNil))) = M.pure [ptD (a1, a2), ptD (b1, b2)] := rfl
  rw [e, f_lc, x_cons, x_cons, x_nil, o_ixp0, o_ixp0, o_ixp1, o_ixp1]
  simp only []
  generalize hs1 : (x - a1) * (b2 - a2) = S1 at m1
  generalize hs2 : (y - a2) * (b1 - a1) = S2 at m2
  generalize hs3 : w * w = W at m3
  simp (config := { maxSteps := 3000000 }) (disch := first | omega | (simp only [List.length_map, List.length_cons, List.length_nil, List.length_append, List.length_replicate, List.length_set, List.length_range, nts_len, List.length_take, List.length_drop]; omega) | kernel_rfl) only [f_bin, f_chain, o_sub, opt_some, Pm.pure_bind, bl_bl, decide_eq_true_eq, f_of, f_if, o_mulL, o_add, o_le, o_gt, noEx_pure, f_nil, f_cons, f_cb, hs1, hs2, hs3]
  have mn : ∀ u v : Int, minF [.lst [.int u, .int v]] = some (.int (min u v)) := fun u v => rfl
  rw [mn]
  simp only [opt_some, f_bin, o_le]
  generalize (x - a1) * (b1 - a1) + (y - a2) * (b2 - a2) = AL
  generalize (b1 - a1) * (b1 - a1) + (b2 - a2) * (b2 - a2) = SZ
  by_cases h1 : 0 ≤ AL <;> by_cases h2 : AL ≤ SZ <;> by_cases h3 : 0 < SZ <;> simp [h1, h2, h3, f_of, f_andB, f_if]
/-! ### strokes -/
def rowsOf (l : List Pt) : List (Pt × Pt) := if 1 < (l.length : Int) then l.zip (l.drop 1) else l.zip l
def strokeB (l : List Pt) (w x y : Int) : Bool := (rowsOf (l.map dbl)).any fun p => nearB p.1 p.2 x y w
def pairD (p : Pt × Pt) : D := .tup [ptD p.1, ptD p.2]
theorem rows_mem {l : List Pt} {p : Pt × Pt} (h : p ∈ rowsOf l) : p.1 ∈ l ∧ p.2 ∈ l := by
  unfold rowsOf at h
  split at h
  · obtain ⟨h1, h2⟩ := zip_mem h
    exact ⟨h1, List.mem_of_mem_drop h2⟩
  · exact zip_mem h
theorem rows_mk (l : List Pt) : fLz (fCons (M.pure (.lst (l.map ptD))) (fCons (fIf (fOf (fBin gtD (fCB lenF (fCons (M.pure (.lst (l.map ptD))) fNil)) (M.pure (D.int 1)))) (fSl (M.pure (.lst (l.map ptD))) (fOSo (M.pure (D.int 1))) fONo) (M.pure (.lst (l.map ptD)))) fNil)) = M.pure (.lst ((rowsOf l).map pairD)) := by
  have e1 : fSl (M.pure (.lst (l.map ptD))) (fOSo (M.pure (D.int 1))) fONo = M.pure (.lst ((l.drop 1).map ptD)) := by
    rw [f_oso, f_ono, f_sl, sl_lst, opt_some, show cutL (l.map ptD) (some 1) none = (l.map ptD).drop 1 from cut_lo _ 1, List.map_drop]
  rw [e1, f_nil, f_cons, f_cb, b_len_l, opt_some, f_bin, o_gt, opt_some, f_of, f_if, List.length_map]
  unfold rowsOf
  by_cases h : 1 < (l.length : Int)
  · rw [if_pos (decide_eq_true h), if_pos h, f_cons, f_cons, f_lz, z_lst, opt_some, Pm.pure_bind, zipL_map]; rfl
  · rw [if_neg (by simp only [decide_eq_true_eq]; exact h), if_neg h, f_cons, f_cons, f_lz, z_lst, opt_some, Pm.pure_bind, zipL_map]; rfl
theorem any_eq {α : Type} {f : D → M D} {E : α → D} {g : α → Bool} {l : List α} (h : ∀ x ∈ l, f (E x) = M.pure (.bl (g x))) : fCB anyF (fCons (fLC (fItems (M.pure (.lst (l.map E)))) f) fNil) = M.pure (.bl (l.any g)) := by
  rw [f_items, i_lst, opt_some, f_lc, map_of (g := fun x => .bl (g x)) h, Pm.pure_bind, f_nil, f_cons, f_cb, b_any, bls_of]
  show M.pure (D.bl ((l.map g).any id)) = _
  rw [List.any_map]; rfl
abbrev strokeL (w rows x y : D) : M D := fCB anyF (fCons (fLC (fItems (M.pure rows)) fun it2_ => (fU2 it2_ fun one_ other_ => (fCall m_is_near (fCons (M.pure one_) (fCons (M.pure other_) (fCons (M.pure x) (fCons (M.pure y) (fCons (M.pure w) fNil)))))))) fNil)
theorem stroked_eq {L : Lams} {l : List Pt} {w : Int} {wd ht : Nat} (hsm : ∀ a b c d, L.sm 0 [a, b] [c, d] = strokeL a b c d) (hps : (L.tx 0).ps.length = 2) (hwd : wd ≤ 99) (hht : ht ≤ 99) (hw : 0 ≤ w ∧ w ≤ 1000) (hl : l.length ≤ 1000) (ho : ∀ p ∈ l, okn (dbl p)) :
    m_stroked L [.tup (l.map ptD), .int w, .int wd, .int ht] = M.pure (.tup [.int wd, .int ht, .tup (nts (maskL (strokeB l w) wd ht))]) := by
  show p_stroked L _ _ _ _ = _
  unfold p_stroked
  have e1 : fLC (fItems (M.pure (.tup (l.map ptD)))) (fun it1_ => (fU2 it1_ fun x_ y_ => (fTup (fCons (fBin mulD (M.pure (D.int 2)) (M.pure x_)) (fCons (fBin mulD (M.pure (D.int 2)) (M.pure y_)) fNil))))) = M.pure (.lst ((l.map dbl).map ptD)) := by
    rw [f_items, i_tup, opt_some, f_lc, map_of (g := fun q : Pt => ptD (dbl q)) (fun q _ => by
      rw [show ptD q = .tup [.int q.1, .int q.2] from rfl, f_u2, f_bin, f_bin, o_mulL (by decide) (by decide), o_mulL (by decide) (by decide)]
      rfl), Pm.pure_bind, List.map_map]
    rfl
  rw [e1, Pm.pure_bind, rows_mk, Pm.pure_bind]
  unfold fCalL
  rw [f_nil, f_cons, f_cons, f_cons, f_cons, Pm.pure_bind, Pm.pure_bind]
  have hds : [D.int w, .lst ((rowsOf (l.map dbl)).map pairD)].all (okd 40) = true := by
    rw [List.all_cons, okd_int, List.all_cons, okd_lst]
    simp only [List.all_nil, Bool.and_true, Bool.true_and, List.all_eq_true]
    intro x hx
    obtain ⟨r, _, rfl⟩ := List.mem_map.mp hx
    unfold pairD ptD
    rw [okd_tup]
    simp only [List.all_cons, List.all_nil, Bool.and_true]
    rw [okd_tup, okd_tup]
    simp [okd_int]
  rw [show ([D.int wd, .int ht] ++ [D.fn 0 (L.tx 0) [.int w, .lst ((rowsOf (l.map dbl)).map pairD)]]) = [.int wd, .int ht, .fn 0 (L.tx 0) [.int w, .lst ((rowsOf (l.map dbl)).map pairD)]] from rfl,
    spots_eq (strokeB l w) hwd hht (fun x y a1 a2 a3 a4 => by
      rw [hsm]
      refine any_eq fun p hp => ?_
      obtain ⟨m1, m2⟩ := rows_mem hp
      obtain ⟨q1, k1, e1⟩ := List.mem_map.mp m1
      obtain ⟨q2, k2, e2⟩ := List.mem_map.mp m2
      unfold pairD
      rw [f_u2, f_nil, f_cons, f_cons, f_cons, f_cons, f_cons, f_call]
      exact near_eq (by rw [← e1]; exact ho _ k1) (by rw [← e2]; exact ho _ k2) (by simp only [okn]; omega) hw) hps hds, noEx_pure, Pm.pure_bind, if_pos]
  rw [okd_tup]
  simp only [List.all_cons, okd_int, List.all_nil, Bool.and_true, Bool.true_and]
  exact okd_nts' 38 _
end Pm
end
noncomputable section
namespace Pm
open PySem
def p_rows_of (picture_ : D) : M D :=
  (M.bind (M.pure picture_) fun it1_ => (fU3 it1_ fun width_ height_ cells_ => 
  (fLC (fRng (fCons (M.pure height_) fNil)) fun y_ => (fSl (M.pure cells_) (fOSo (fBin mulD (M.pure y_) (M.pure width_))) (fOSo (fBin mulD (fBin addD (M.pure y_) (M.pure (D.int 1))) (M.pure width_)))))))
def m_rows_of : Mf := fun ds => match ds with
  | [picture_] => p_rows_of picture_
  | _ => M.bad
def p_of_rows (rows_ : D) : M D :=
  (fTup (fCons (fCB lenF (fCons (fBin ixD (M.pure rows_) (M.pure (D.int 0))) fNil)) (fCons (fCB lenF (fCons (M.pure rows_) fNil)) (fCons (fCB tupF (fCons (fLC2 (fItems (M.pure rows_)) fun row_ => (fIn (fItems (M.pure row_)) fun cell_ => (M.pure cell_))) fNil)) fNil))))
def m_of_rows : Mf := fun ds => match ds with
  | [rows_] => p_of_rows rows_
  | _ => M.bad
def p_is_in (picture_ : D) (x_ : D) (y_ : D) : M D :=
  (fAnd (fChain leD ltD (M.pure (D.int 0)) (M.pure x_) (fBin ixD (M.pure picture_) (M.pure (D.int 0)))) (fChain leD ltD (M.pure (D.int 0)) (M.pure y_) (fBin ixD (M.pure picture_) (M.pure (D.int 1)))))
def m_is_in : Mf := fun ds => match ds with
  | [picture_, x_, y_] => p_is_in picture_ x_ y_
  | _ => M.bad
def l1_put_over (L_ : Lams) (picture_ : D) (x_ : D) (y_ : D) (told_ : D) (rows_ : D) (down_ : D) (it2_ : D) (st_ : Unit) (k1_ : Unit → M D) : M D :=
  (fU2 it2_ fun across_ cell_ => (fIf (fTru (fCall m_is_in (fCons (M.pure picture_) (fCons (fBin addD (M.pure x_) (M.pure across_)) (fCons (fBin addD (M.pure y_) (M.pure down_)) fNil)))))
  (M.bind (fCF L_ (M.pure told_) (fCons (M.pure cell_) (fCons (fIxH (fBin ixD (M.pure rows_) (fBin addD (M.pure y_) (M.pure down_))) (fBin addD (M.pure x_) (M.pure across_))) fNil))) fun v3_ => M.bind (fBin ixD (M.pure rows_) (fBin addD (M.pure y_) (M.pure down_))) fun o3_ => M.bind (fBin addD (M.pure x_) (M.pure across_)) fun i3_ => M.bind (stO o3_ i3_ v3_) fun _ =>
  (k1_ ()))
  (k1_ ())))
def l0_put_over (L_ : Lams) (picture_ : D) (x_ : D) (y_ : D) (told_ : D) (rows_ : D) (it1_ : D) (st_ : Unit) (k0_ : Unit → M D) : M D :=
  (fU2 it1_ fun down_ row_ => (M.bind (fEnum (fCons (M.pure row_) fNil)) fun xs4_ => fFor (l1_put_over L_ picture_ x_ y_ told_ rows_ down_) xs4_ () fun _ =>
  (k0_ ())))
def p_put_over (L_ : Lams) (picture_ : D) (other_ : D) (x_ : D) (y_ : D) (told_ : D) : M D :=
  (M.bind (fLC (fItems (fCall m_rows_of (fCons (M.pure picture_) fNil))) fun row_ => (fNewH (fCons (M.pure row_) fNil))) fun rows_ =>
  (M.bind (fEnum (fCons (fCall m_rows_of (fCons (M.pure other_) fNil)) fNil)) fun xs5_ => fFor (l0_put_over L_ picture_ x_ y_ told_ rows_) xs5_ () fun _ =>
  (fCall m_of_rows (fCons (fFrz (M.pure rows_)) fNil))))
def u_put_over (L_ : Lams) : Mf := fun ds => match ds with
  | [picture_, other_, x_, y_, told_] => p_put_over L_ picture_ other_ x_ y_ told_
  | _ => M.bad
def m_put_over (L_ : Lams) : Mf := scopeF (u_put_over L_)
def p_cell_at (picture_ : D) (x_ : D) (y_ : D) : M D :=
  (fIf (fNotB (fTru (fCall m_is_in (fCons (M.pure picture_) (fCons (M.pure x_) (fCons (M.pure y_) fNil))))))
  (M.raise "NoCell")
  (fBin ixD (fBin ixD (M.pure picture_) (M.pure (D.int 2))) (fBin addD (fBin mulD (M.pure y_) (fBin ixD (M.pure picture_) (M.pure (D.int 0)))) (M.pure x_))))
def m_cell_at : Mf := fun ds => match ds with
  | [picture_, x_, y_] => p_cell_at picture_ x_ y_
  | _ => M.bad
def p_plain_one (width_ : D) (height_ : D) (colour_ : D) : M D :=
  (fTup (fCons (M.pure width_) (fCons (M.pure height_) (fCons (fBin mulD (fTup (fCons (M.pure colour_) fNil)) (fBin mulD (M.pure width_) (M.pure height_))) fNil))))
def m_plain_one : Mf := fun ds => match ds with
  | [width_, height_, colour_] => p_plain_one width_ height_ colour_
  | _ => M.bad
/-! ### pictures by places -/
theorem ev {α β : Type} {m : M α} {f : α → M β} {w w' : W} {a : α} (h : m w = .ok a w') : M.bind m f w = f a w' := by unfold M.bind; rw [h]
theorem call1 (m : Mf) (a : D) : fCall m (fCons (M.pure a) fNil) = m [a] := rfl
theorem call2 (m : Mf) (a b : D) : fCall m (fCons (M.pure a) (fCons (M.pure b) fNil)) = m [a, b] := rfl
theorem call3 (m : Mf) (a b c : D) : fCall m (fCons (M.pure a) (fCons (M.pure b) (fCons (M.pure c) fNil))) = m [a, b, c] := rfl
theorem call4 (m : Mf) (a b c d : D) : fCall m (fCons (M.pure a) (fCons (M.pure b) (fCons (M.pure c) (fCons (M.pure d) fNil)))) = m [a, b, c, d] := rfl
theorem call5 (m : Mf) (a b c d e : D) : fCall m (fCons (M.pure a) (fCons (M.pure b) (fCons (M.pure c) (fCons (M.pure d) (fCons (M.pure e) fNil))))) = m [a, b, c, d, e] := rfl
/-- rows of what c tells of each place -/
def gridL {α : Type} (w h : Nat) (c : Nat → Nat → α) : List (List α) := (List.range h).map fun y => (List.range w).map fun x => c x y
def picF (w h : Nat) (c : Nat → Nat → D) : D := .tup [.int w, .int h, .tup (gridL w h c).flatten]
abbrev picC (w h : Nat) (c : Nat → Nat → C4) : D := picF w h fun x y => col (c x y)
section
variable {α : Type} {w h : Nat} {c c' : Nat → Nat → α}
theorem grid_len : (gridL w h c).length = h := by unfold gridL; simp
theorem grid_get {y : Nat} (hy : y < h) : (gridL w h c)[y]? = some ((List.range w).map fun x => c x y) := by
  unfold gridL; rw [List.getElem?_map, List.getElem?_range hy]; rfl
theorem grid_row : ∀ r ∈ gridL w h c, r.length = w := fun r hr => by
  obtain ⟨y, _, rfl⟩ := List.mem_map.mp hr
  simp
theorem grid_congr (e : ∀ x y, x < w → y < h → c x y = c' x y) : gridL w h c = gridL w h c' := by
  unfold gridL
  refine List.map_congr_left fun y hy => List.map_congr_left fun x hx => e x y (List.mem_range.mp hx) (List.mem_range.mp hy)
theorem flat_len : ∀ (h : Nat) (f : Nat → List α) (_ : ∀ y, (f y).length = w), ((List.range h).map f).flatten.length = w * h
  | 0, f, _ => by simp
  | h + 1, f, hf => by rw [List.range_succ, List.map_append, List.flatten_append, List.length_append, flat_len h f hf]; simp [hf, Nat.mul_succ]
theorem cells_len : (gridL w h c).flatten.length = w * h := flat_len h _ fun y => by simp
theorem flat_get : ∀ (h : Nat) (f : Nat → List α) (_ : ∀ y, (f y).length = w) (x y : Nat), x < w → y < h → ((List.range h).map f).flatten[y * w + x]? = (f y)[x]?
  | 0, f, _, x, y, _, hy => absurd hy (by omega)
  | h + 1, f, hf, x, y, hx, hy => by
    rw [List.range_succ, List.map_append, List.flatten_append]
    by_cases q : y < h
    · have b : (y + 1) * w ≤ h * w := Nat.mul_le_mul_right w q
      rw [Nat.succ_mul] at b
      rw [List.getElem?_append_left (by rw [flat_len h f hf, Nat.mul_comm w h]; omega), flat_get h f hf x y hx q]
    · have e : y = h := by omega
      subst e
      rw [List.getElem?_append_right (by rw [flat_len y f hf, Nat.mul_comm w y]; omega), flat_len y f hf, Nat.mul_comm w y]
      simp
theorem cells_get {x y : Nat} (hx : x < w) (hy : y < h) : (gridL w h c).flatten[y * w + x]? = some (c x y) := by
  unfold gridL
  rw [flat_get h _ (fun y => by simp) x y hx hy, List.getElem?_map, List.getElem?_range hx]; rfl
/-- any cells are told by places -/
theorem of_cells [Inhabited α] {cs : List α} (hl : cs.length = w * h) : cs = (gridL w h fun x y => cs.getD (y * w + x) default).flatten := by
  refine List.ext_getElem? fun k => ?_
  by_cases hk : k < w * h
  · have hw : 0 < w := Nat.pos_of_ne_zero fun z => by subst z; simp at hk
    have e : k = k / w * w + k % w := by rw [Nat.mul_comm]; exact (Nat.div_add_mod k w).symm
    have hx : k % w < w := Nat.mod_lt _ hw
    have hy : k / w < h := Nat.div_lt_of_lt_mul hk
    rw [e, cells_get hx hy, List.getD_eq_getElem?_getD, ← e, List.getElem?_eq_getElem (by omega)]; rfl
  · rw [List.getElem?_eq_none (by omega), List.getElem?_eq_none (by rw [cells_len]; omega)]
theorem row_of {cs : List α} (hl : cs = (gridL w h c).flatten) {y : Nat} (hy : y < h) : (cs.drop (y * w)).take w = (List.range w).map fun x => c x y := by
  subst hl
  refine List.ext_getElem? fun x => ?_
  rw [List.getElem?_take]
  by_cases hx : x < w
  · rw [if_pos hx, List.getElem?_drop, cells_get hx hy, List.getElem?_map, List.getElem?_range hx]; rfl
  · rw [if_neg hx, List.getElem?_eq_none (by simp; omega)]
theorem grid_map {β : Type} (f : α → β) : (gridL w h c).flatten.map f = (gridL w h fun x y => f (c x y)).flatten := by
  unfold gridL
  rw [List.map_flatten, List.map_map]
  congr 1
  refine List.map_congr_left fun y _ => ?_
  simp
theorem mem_grid {z : α} (hz : z ∈ (gridL w h c).flatten) : ∃ x y, x < w ∧ y < h ∧ z = c x y := by
  obtain ⟨r, hr, hz⟩ := List.mem_flatten.mp hz
  obtain ⟨y, hy, rfl⟩ := List.mem_map.mp hr
  obtain ⟨x, hx, rfl⟩ := List.mem_map.mp hz
  exact ⟨x, y, List.mem_range.mp hx, List.mem_range.mp hy, rfl⟩
end
theorem pic_congr {w h : Nat} {c c' : Nat → Nat → D} (e : ∀ x y, x < w → y < h → c x y = c' x y) : picF w h c = picF w h c' := by
  unfold picF; rw [grid_congr e]
theorem pf_0 (w h : Nat) (c : Nat → Nat → D) : fBin ixD (M.pure (picF w h c)) (M.pure (D.int 0)) = M.pure (.int w) := by unfold picF; rw [f_bin, Pm.ix_tup, at0]; rfl
theorem pf_1 (w h : Nat) (c : Nat → Nat → D) : fBin ixD (M.pure (picF w h c)) (M.pure (D.int 1)) = M.pure (.int h) := by unfold picF; rw [f_bin, Pm.ix_tup, at1]; rfl
theorem pf_2 (w h : Nat) (c : Nat → Nat → D) : fBin ixD (M.pure (picF w h c)) (M.pure (D.int 2)) = M.pure (.tup (gridL w h c).flatten) := by unfold picF; rw [f_bin, Pm.ix_tup, at2]; rfl
theorem u3_pic {α : Type} (w h : Nat) (c : Nat → Nat → D) (k : D → D → D → M α) : fU3 (picF w h c) k = k (.int w) (.int h) (.tup (gridL w h c).flatten) := rfl
theorem cutr (cs : List D) (y w : Nat) : cutL cs (some ((y * w : Nat) : Int)) (some (((y + 1) * w : Nat) : Int)) = (cs.drop (y * w)).take w := by
  rw [cut_mid]
  congr 1
  rw [Nat.add_mul]; omega
theorem rowsF {w h : Nat} (c : Nat → Nat → D) (hw : w ≤ 1000) (hh : h ≤ 1000) : m_rows_of [picF w h c] = M.pure (.lst ((gridL w h c).map D.tup)) := by
  show p_rows_of _ = _
  unfold p_rows_of
  rw [Pm.pure_bind, u3_pic, show fRng (fCons (M.pure (.int (h : Int))) fNil) = M.opt (rngF [.int (h : Int)]) from rfl, rng_A (by omega) (by omega), opt_some, f_lc, map_of (E := fun (k : Nat) => D.int k) (l := List.range (h : Int).toNat) (g := fun y => D.tup ((List.range w).map fun x => c x y)) (fun y hy => ?_)]
  · unfold gridL
    rw [Pm.pure_bind, List.map_map]; rfl
  · have hy : y < h := by have := List.mem_range.mp hy; omega
    have e1 : fBin mulD (M.pure (.int (y : Int))) (M.pure (.int (w : Int))) = M.pure (.int ((y * w : Nat) : Int)) := by
      rw [f_bin, o_mulR (by omega) (by omega)]; rfl
    have e2 : fBin mulD (fBin addD (M.pure (.int (y : Int))) (M.pure (D.int 1))) (M.pure (.int (w : Int))) = M.pure (.int (((y + 1) * w : Nat) : Int)) := by
      rw [show fBin addD (M.pure (.int (y : Int))) (M.pure (D.int 1)) = M.pure (.int ((y : Int) + 1)) from rfl, f_bin, o_mulR (by omega) (by omega)]; rfl
    rw [e1, e2, f_oso, f_oso]
    show M.pure (D.tup (cutL _ _ _)) = _
    rw [cutr, row_of rfl hy]
theorem in_idF (r : List D) : fMapM (fun d => M.pure d) r = M.pure r := by
  have := map_of (f := fun d => M.pure d) (E := id) (g := id) (l := r) (fun _ _ => rfl)
  rwa [List.map_id] at this
theorem madeF {E : List D → D} (h1 : ∀ r, lenF [E r] = some (.int r.length)) (h2 : ∀ r, itemsD (E r) = some r) {w h : Nat} (c : Nat → Nat → D) (hw : 1 ≤ w ∧ w ≤ 1000) (hh : 1 ≤ h ∧ h ≤ 1000) : m_of_rows [.lst ((gridL w h c).map E)] = M.pure (picF w h c) := by
  show p_of_rows _ = _
  unfold p_of_rows
  have e0 : fBin ixD (M.pure (.lst ((gridL w h c).map E))) (M.pure (D.int 0)) = M.pure (E ((List.range w).map fun x => c x 0)) := by
    rw [f_bin, ix_lst, at_map (E := E) (i := 0) (n := 0) (xs := gridL w h c) rfl (grid_get (by omega))]; rfl
  have e1 : fCB lenF (fCons (M.pure (.lst ((gridL w h c).map E))) fNil) = M.pure (.int h) := by
    show M.opt (some (D.int ((gridL w h c).map E).length)) = _
    rw [List.length_map, grid_len]; rfl
  have e3 : fCB lenF (fCons (M.pure (E ((List.range w).map fun x => c x 0))) fNil) = M.pure (.int w) := by
    show M.opt (lenF [_]) = _
    rw [h1, List.length_map, List.length_range]; rfl
  have hz : (gridL w h c).flatten.length ≤ 16777216 := by
    rw [cells_len]
    have : w * h ≤ 1000 * 1000 := Nat.mul_le_mul hw.2 hh.2
    omega
  have e2 : fLC2 (fItems (M.pure (.lst ((gridL w h c).map E)))) (fun row_ => (fIn (fItems (M.pure row_)) fun cell_ => (M.pure cell_))) = M.pure (.lst (gridL w h c).flatten) := by
    rw [show fItems (M.pure (.lst ((gridL w h c).map E))) = M.pure ((gridL w h c).map E) from rfl, f_lc2, cat_of (E := E) (g := fun r => r) (l := gridL w h c) (fun r _ => by rw [f_items, h2, opt_some, f_in, in_idF]), Pm.pure_bind, List.map_id', if_pos (by rw [sizeIs]; exact hz)]
  rw [e0, e1, e2, e3]
  rfl
theorem in4F (W H : Nat) (x y : Int) : fAnd (fChain leD ltD (M.pure (D.int 0)) (M.pure (.int x)) (M.pure (.int W))) (fChain leD ltD (M.pure (D.int 0)) (M.pure (.int y)) (M.pure (.int H))) = M.pure (.bl (decide (0 ≤ x ∧ x < W ∧ 0 ≤ y ∧ y < H))) := by
  simp only [f_chain, o_le, o_lt, opt_some, Pm.pure_bind, bl_bl]
  by_cases h1 : 0 ≤ x <;> by_cases h2 : x < (W : Int) <;> by_cases h3 : 0 ≤ y <;> by_cases h4 : y < (H : Int) <;> simp [h1, h2, h3, h4, f_and]
theorem is_inF (w h : Nat) (c : Nat → Nat → D) (x y : Int) : m_is_in [picF w h c, .int x, .int y] = M.pure (.bl (decide (0 ≤ x ∧ x < w ∧ 0 ≤ y ∧ y < h))) := by
  show p_is_in _ _ _ = _
  unfold p_is_in
  rw [pf_0, pf_1]
  exact in4F w h x y
theorem at_cellF {w h : Nat} (c : Nat → Nat → D) {x y : Nat} (hx : x < w) (hy : y < h) : L2.atI (gridL w h c).flatten ((y : Int) * w + x) = some (c x y) :=
  atI_of (n := y * w + x) (by simp) (cells_get hx hy)
theorem cell_atF {w h : Nat} (hw : w ≤ 1000) (c : Nat → Nat → D) {x y : Int} (hx : 0 ≤ x ∧ x < w) (hy : 0 ≤ y ∧ y < h) : m_cell_at [picF w h c, .int x, .int y] = M.pure (c x.toNat y.toNat) := by
  show p_cell_at _ _ _ = _
  unfold p_cell_at
  rw [call3 m_is_in, is_inF, f_tru, t_bl, opt_some, f_notB, f_if, if_neg (by simp; omega), pf_2, pf_0, f_bin, o_mulR (by omega) (by omega), opt_some, f_bin, o_add, opt_some, f_bin, Pm.ix_tup]
  obtain ⟨a, rfl⟩ := Int.eq_ofNat_of_zero_le hx.1
  obtain ⟨b, rfl⟩ := Int.eq_ofNat_of_zero_le hy.1
  rw [at_cellF c (by omega) (by omega)]; rfl
theorem cell_noF {w h : Nat} (c : Nat → Nat → D) {x y : Int} (hn : ¬ (0 ≤ x ∧ x < w ∧ 0 ≤ y ∧ y < h)) : m_cell_at [picF w h c, .int x, .int y] = M.raise "NoCell" := by
  show p_cell_at _ _ _ = _
  unfold p_cell_at
  rw [call3 m_is_in, is_inF, f_tru, t_bl, opt_some, f_notB, f_if, if_pos (by rw [decide_eq_false hn]; rfl)]
theorem grid_const {w h : Nat} {d : D} : (gridL w h fun _ _ => d).flatten = List.replicate (w * h) d := by
  refine List.eq_replicate_iff.mpr ⟨cells_len, fun z hz => ?_⟩
  obtain ⟨_, _, _, _, e⟩ := mem_grid hz
  exact e
theorem plainF {w h : Nat} (hw : 1 ≤ w) (hh : 1 ≤ h) (hz : w * h ≤ 10000) (d : D) : m_plain_one [.int w, .int h, d] = M.pure (picF w h fun _ _ => d) := by
  show p_plain_one _ _ _ = _
  unfold p_plain_one picF
  have hp : 1 ≤ w * h := Nat.mul_pos hw hh
  rw [grid_const, f_bin, o_mulR (by have : w * 1 ≤ w * h := Nat.mul_le_mul_left w hh; have : 1 * h ≤ w * h := Nat.mul_le_mul_right h hw; omega) (by have : 1 * h ≤ w * h := Nat.mul_le_mul_right h hw; omega), opt_some, f_nil, f_cons, f_tup, f_bin, show (w : Int) * (h : Int) = ((w * h : Nat) : Int) by simp, o_mulT1 (by omega) (by omega), Int.toNat_natCast]
  rfl
/-! ### a picture put over another -/
/-- the cell at x y is v -/
def updC (c : Nat → Nat → C4) (x y : Nat) (v : C4) : Nat → Nat → C4 := fun i j => if i = x ∧ j = y then v else c i j
theorem okt_col (p : C4) : okt (col p) = true := rfl
theorem okts_map {α : Type} (f : α → C4) : ∀ l : List α, okts (l.map fun x => col (f x)) = true
  | [] => rfl
  | x :: l => by rw [List.map_cons, okts, okt_col, okts_map f l]; rfl
abbrev obs (w h : Nat) (c : Nat → Nat → C4) : List (Option Ob) := (gridL w h fun x y => col (c x y)).map fun r => some (Ob.lst r)
theorem obs_len {w h : Nat} {c : Nat → Nat → C4} : (obs w h c).length = h := by rw [List.length_map, grid_len]
theorem obs_get {w h y : Nat} {c : Nat → Nat → C4} (o : List (Option Ob)) (hy : y < h) : (o ++ obs w h c)[o.length + y]? = some (some (.lst ((List.range w).map fun x => col (c x y)))) := by
  rw [List.getElem?_append_right (by omega), Nat.add_sub_cancel_left, List.getElem?_map, grid_get hy]; rfl
theorem obs_set {w h x y : Nat} {c : Nat → Nat → C4} (o : List (Option Ob)) (v : C4) (hy : y < h) : (o ++ obs w h c).set (o.length + y) (some (.lst (((List.range w).map fun x => col (c x y)).set x (col v)))) = o ++ obs w h (updC c x y v) := by
  rw [List.set_append_right _ _ (by omega), Nat.add_sub_cancel_left]
  congr 1
  refine List.ext_getElem? fun j => ?_
  by_cases hj : j < h
  · rw [List.getElem?_map, grid_get hj]
    by_cases e : j = y
    · subst e
      rw [List.getElem?_set_self (by rw [obs_len]; exact hj)]
      simp only [Option.map_some]
      congr 3
      refine List.ext_getElem? fun i => ?_
      rw [List.getElem?_set]
      by_cases hi : i < w
      · rw [List.getElem?_map, List.getElem?_map, List.getElem?_range hi]
        unfold updC
        by_cases e2 : x = i
        · subst e2; simp [hi]
        · rw [if_neg e2]
          simp [Ne.symm e2]
      · rw [List.getElem?_eq_none (by simp; omega), List.getElem?_eq_none (by simp; omega)]
        split
        · simp; omega
        · rfl
    · rw [List.getElem?_set_ne (Ne.symm e), List.getElem?_map, grid_get hj]
      unfold updC
      simp [e]
  · rw [List.getElem?_eq_none (by rw [List.length_set, obs_len]; omega), List.getElem?_eq_none (by rw [obs_len]; omega)]
theorem newrows (t : Option (List Int)) : ∀ (rs : List (List D)) (o : List (Option Ob)), (∀ r ∈ rs, okts r = true ∧ r.length ≤ sizeLine) → fMapM (fun row_ => (fNewH (fCons (M.pure row_) fNil))) (rs.map D.tup) ⟨t, o⟩ = .ok ((List.range rs.length).map fun k => D.obj (o.length + k)) ⟨t, o ++ rs.map fun r => some (Ob.lst r)⟩
  | [], o, _ => by simp [fMapM, M.pure]
  | r :: rs, o, h => by
    have h1 := h r List.mem_cons_self
    have e1 : noEx (fNewH (fCons (M.pure (.tup r)) fNil)) ⟨t, o⟩ = .ok (.obj o.length) ⟨t, o ++ [some (.lst r)]⟩ := by
      have : fNewH (fCons (M.pure (.tup r)) fNil) ⟨t, o⟩ = .ok (.obj o.length) ⟨t, o ++ [some (.lst r)]⟩ := by
        show newO r ⟨t, o⟩ = _
        unfold newO
        rw [if_pos h1]
      unfold noEx; rw [this]
    rw [List.map_cons, x_cons, ev e1, ev (newrows t rs (o ++ [some (Ob.lst r)]) fun q hq => h q (List.mem_cons_of_mem _ hq))]
    simp only [M.pure, List.length_cons, List.range_succ_eq_map, List.map_cons, List.map_map, List.length_append, List.length_nil, List.append_assoc, List.cons_append, List.nil_append]
    congr 2
    refine List.map_congr_left fun k _ => ?_
    simp; omega
theorem fCF_at {L : Lams} {d : D} {g : M (List D)} {w w' : W} {as : List D} (h : g w = .ok as w') : fCF L (M.pure d) g w = fCF L (M.pure d) (M.pure as) w' := by
  show fLamG L d g w = fLamG L d (M.pure as) w'
  cases d <;> try rfl
  rename_i k T ds
  by_cases q : T = L.tx k
  · subst q
    rw [fLamG_fn, fLamG_fn, ev h]; rfl
  · rw [fLamG_no q, fLamG_no q]; rfl
section
variable {L : Lams} {told : D} {F : C4 → C4 → C4} {w h : Nat} {c0 : Nat → Nat → C4} {X Y : Int}
/-- one cell is told -/
def stepC (w h : Nat) (X Y : Int) (F : C4 → C4 → C4) (c : Nat → Nat → C4) (d a : Nat) (p : C4) : Nat → Nat → C4 :=
  if 0 ≤ X + a ∧ X + a < w ∧ 0 ≤ Y + d ∧ Y + d < h then updC c (X + a).toNat (Y + d).toNat (F p (c (X + a).toNat (Y + d).toNat)) else c
def rowC (w h : Nat) (X Y : Int) (F : C4 → C4 → C4) (d : Nat) : Nat → List C4 → (Nat → Nat → C4) → Nat → Nat → C4
  | _, [], c => c
  | a, p :: ps, c => rowC w h X Y F d (a + 1) ps (stepC w h X Y F c d a p)
def allC (w h : Nat) (X Y : Int) (F : C4 → C4 → C4) : Nat → List (List C4) → (Nat → Nat → C4) → Nat → Nat → C4
  | _, [], c => c
  | d, r :: rs, c => allC w h X Y F (d + 1) rs (rowC w h X Y F d 0 r c)
def okG (w h : Nat) (c : Nat → Nat → C4) : Prop := ∀ x y, x < w → y < h → okc (c x y)
def tells (L : Lams) (told : D) (F : C4 → C4 → C4) : Prop := ∀ p q, okc p → okc q → fCF L (M.pure told) (M.pure [col p, col q]) = M.pure (col (F p q)) ∧ okc (F p q)
theorem ok_step (ht : tells L told F) {c : Nat → Nat → C4} (hc : okG w h c) {p : C4} (hp : okc p) (d a : Nat) : okG w h (stepC w h X Y F c d a p) := fun x y hx hy => by
  unfold stepC
  split
  · unfold updC
    split
    · exact (ht p _ hp (hc _ _ (by omega) (by omega))).2
    · exact hc x y hx hy
  · exact hc x y hx hy
theorem ok_row (ht : tells L told F) (d : Nat) : ∀ (ps : List C4) (a : Nat) {c : Nat → Nat → C4}, okG w h c → (∀ p ∈ ps, okc p) → okG w h (rowC w h X Y F d a ps c)
  | [], _, _, hc, _ => hc
  | p :: ps, a, c, hc, hp => ok_row ht d ps (a + 1) (ok_step ht hc (hp p List.mem_cons_self) d a) fun q hq => hp q (List.mem_cons_of_mem _ hq)
theorem ok_all (ht : tells L told F) : ∀ (rs : List (List C4)) (d : Nat) {c : Nat → Nat → C4}, okG w h c → (∀ r ∈ rs, ∀ p ∈ r, okc p) → okG w h (allC w h X Y F d rs c)
  | [], _, _, hc, _ => hc
  | r :: rs, d, c, hc, hp => ok_all ht rs (d + 1) (ok_row ht d r 0 hc (hp r List.mem_cons_self)) fun q hq => hp q (List.mem_cons_of_mem _ hq)
abbrev rowsH (n h : Nat) : D := .lst ((List.range h).map fun k => D.obj (n + k))
theorem cell_step (ht : tells L told F) (hw : w ≤ 1000) {c : Nat → Nat → C4} (hc : okG w h c) {p : C4} (hp : okc p) (d a : Nat) (t : Option (List Int)) (o : List (Option Ob)) (k : Unit → M D) :
    l1_put_over L (picC w h c0) (.int X) (.int Y) told (rowsH o.length h) (.int d) (.tup [.int a, col p]) () k ⟨t, o ++ obs w h c⟩ = k () ⟨t, o ++ obs w h (stepC w h X Y F c d a p)⟩ := by
  unfold l1_put_over
  rw [f_u2, f_bin, o_add, opt_some, f_bin, o_add, opt_some, call3 m_is_in, is_inF, f_tru, t_bl, opt_some, f_if]
  unfold stepC
  by_cases q : 0 ≤ X + a ∧ X + a < w ∧ 0 ≤ Y + d ∧ Y + d < h
  · rw [if_pos (decide_eq_true q), if_pos q]
    have er : fBin ixD (M.pure (rowsH o.length h)) (M.pure (.int (Y + d))) = M.pure (.obj (o.length + (Y + d).toNat)) := by
      rw [f_bin, ix_lst, at_map (E := fun k => D.obj (o.length + k)) (n := (Y + d).toNat) (x := (Y + d).toNat) (by omega) (by rw [List.getElem?_range (by omega)])]; rfl
    rw [er]
    have hg := obs_get (w := w) (c := c) o (show (Y + d).toNat < h by omega)
    have ei : fIxH (M.pure (.obj (o.length + (Y + d).toNat))) (M.pure (.int (X + a))) ⟨t, o ++ obs w h c⟩ = .ok (col (c (X + a).toNat (Y + d).toNat)) ⟨t, o ++ obs w h c⟩ := by
      show ixO (.obj (o.length + (Y + d).toNat)) (.int (X + a)) ⟨t, o ++ obs w h c⟩ = _
      unfold ixO
      simp only [hg]
      rw [ix_lst, at_map (E := fun x => col (c x (Y + d).toNat)) (n := (X + a).toNat) (x := (X + a).toNat) (by omega) (by rw [List.getElem?_range (by omega)])]; rfl
    have eg : fCons (M.pure (col p)) (fCons (fIxH (M.pure (.obj (o.length + (Y + d).toNat))) (M.pure (.int (X + a)))) fNil) ⟨t, o ++ obs w h c⟩ = .ok [col p, col (c (X + a).toNat (Y + d).toNat)] ⟨t, o ++ obs w h c⟩ := by
      show M.bind (M.bind (fIxH _ _) fun a => M.pure [a]) _ _ = _
      rw [ev (a := [col (c (X + a).toNat (Y + d).toNat)]) (w' := ⟨t, o ++ obs w h c⟩) (by rw [ev ei]; rfl)]; rfl
    obtain ⟨t1, t2⟩ := ht p _ hp (hc (X + a).toNat (Y + d).toNat (by omega) (by omega))
    have et : fCF L (M.pure told) (fCons (M.pure (col p)) (fCons (fIxH (M.pure (.obj (o.length + (Y + d).toNat))) (M.pure (.int (X + a)))) fNil)) ⟨t, o ++ obs w h c⟩ = .ok (col (F p (c (X + a).toNat (Y + d).toNat))) ⟨t, o ++ obs w h c⟩ := by
      rw [fCF_at eg, t1]; rfl
    rw [ev et, Pm.pure_bind, Pm.pure_bind]
    have es : stO (.obj (o.length + (Y + d).toNat)) (.int (X + a)) (col (F p (c (X + a).toNat (Y + d).toNat))) ⟨t, o ++ obs w h c⟩ = .ok .non ⟨t, o ++ obs w h (updC c (X + a).toNat (Y + d).toNat (F p (c (X + a).toNat (Y + d).toNat)))⟩ := by
      unfold stO
      have en : L2.ixN ((List.range w).map fun x => col (c x (Y + d).toNat)).length (X + a) = some (X + a).toNat := by
        rw [List.length_map, List.length_range]
        unfold L2.ixN
        rw [if_pos (by omega), if_pos (by omega)]
      simp only [hg, en, okt_col, if_true]
      rw [obs_set o _ (by omega)]
    rw [ev es]
  · rw [if_neg (by simpa using q), if_neg q]
theorem row_step (ht : tells L told F) (hw : w ≤ 1000) (d : Nat) (t : Option (List Int)) (o : List (Option Ob)) (k : Unit → M D) : ∀ (ps : List C4) (a : Nat) {c : Nat → Nat → C4}, okG w h c → (∀ p ∈ ps, okc p) →
    fFor (l1_put_over L (picC w h c0) (.int X) (.int Y) told (rowsH o.length h) (.int d)) (enumL a (ps.map col)) () k ⟨t, o ++ obs w h c⟩ = k () ⟨t, o ++ obs w h (rowC w h X Y F d a ps c)⟩
  | [], _, _, _, _ => rfl
  | p :: ps, a, c, hc, hp => by
    rw [List.map_cons, en_cons, for_cons, cell_step ht hw hc (hp p List.mem_cons_self), row_step ht hw d t o k ps (a + 1) (ok_step ht hc (hp p List.mem_cons_self) d a) fun q hq => hp q (List.mem_cons_of_mem _ hq)]
    rfl
theorem all_step (ht : tells L told F) (hw : w ≤ 1000) (t : Option (List Int)) (o : List (Option Ob)) (k : Unit → M D) : ∀ (rs : List (List C4)) (d : Nat) {c : Nat → Nat → C4}, okG w h c → (∀ r ∈ rs, ∀ p ∈ r, okc p) →
    fFor (l0_put_over L (picC w h c0) (.int X) (.int Y) told (rowsH o.length h)) (enumL d (rs.map fun r => D.tup (r.map col))) () k ⟨t, o ++ obs w h c⟩ = k () ⟨t, o ++ obs w h (allC w h X Y F d rs c)⟩
  | [], _, _, _, _ => rfl
  | r :: rs, d, c, hc, hp => by
    rw [List.map_cons, en_cons, for_cons]
    unfold l0_put_over
    rw [f_u2, show fEnum (fCons (M.pure (D.tup (r.map col))) fNil) = M.pure (enumL 0 (r.map col)) from rfl, Pm.pure_bind, row_step ht hw d t o _ r 0 hc (hp r List.mem_cons_self)]
    exact all_step ht hw t o k rs (d + 1) (ok_row ht d r 0 hc (hp r List.mem_cons_self)) fun q hq => hp q (List.mem_cons_of_mem _ hq)
end
theorem frz_obs (t : Option (List Int)) {w h : Nat} {c : Nat → Nat → C4} : ∀ (rs : List (List D)) (o : List (Option Ob)), frzL ((List.range rs.length).map fun k => D.obj (o.length + k)) ⟨t, o ++ rs.map fun r => some (Ob.lst r)⟩ = some (rs.map D.lst, ⟨t, o ++ List.replicate rs.length none⟩)
  | [], o => by simp [frzL]
  | r :: rs, o => by
    rw [List.length_cons, List.range_succ_eq_map, List.map_cons, List.map_cons, Nat.add_zero, frzL]
    rw [List.getElem?_append_right (Nat.le_refl _), Nat.sub_self]
    simp only [List.getElem?_cons_zero]
    have e1 : (o ++ some (Ob.lst r) :: rs.map fun r => some (Ob.lst r)).set o.length none = (o ++ [none]) ++ rs.map fun r => some (Ob.lst r) := by
      rw [List.set_append_right _ _ (Nat.le_refl _), Nat.sub_self]; simp
    have e2 : (List.map (fun k => D.obj (o.length + k)) (List.map Nat.succ (List.range rs.length))) = (List.range rs.length).map fun k => D.obj ((o ++ [none]).length + k) := by
      rw [List.map_map]
      refine List.map_congr_left fun k _ => ?_
      simp; omega
    rw [e1, e2, frz_obs t (w := w) (h := h) (c := c) rs (o ++ [none])]
    simp only [List.append_assoc, List.cons_append, List.nil_append, List.replicate_succ, List.map_cons]
section
variable {L : Lams} {told : D} {F : C4 → C4 → C4} {w h w2 h2 : Nat} {c c2 : Nat → Nat → C4} {X Y : Int}
/-- the one picture over the other -/
def putC (w2 h2 : Nat) (X Y : Int) (F : C4 → C4 → C4) (c c2 : Nat → Nat → C4) : Nat → Nat → C4 := fun x y =>
  if X ≤ x ∧ x < X + w2 ∧ Y ≤ y ∧ y < Y + h2 then F (c2 (x - X).toNat (y - Y).toNat) (c x y) else c x y
theorem row_at (d : Nat) {x y : Nat} (hx : x < w) (hy : y < h) : ∀ (ps : List C4) (a : Nat) (c : Nat → Nat → C4), rowC w h X Y F d a ps c x y = if (y : Int) = Y + d ∧ X + a ≤ x ∧ (x : Int) < X + a + ps.length then F (ps.getD ((x : Int) - X - a).toNat (0, 0, 0, 0)) (c x y) else c x y
  | [], a, c => by rw [rowC, if_neg (by simp only [List.length_nil]; omega)]
  | p :: ps, a, c => by
    rw [rowC, row_at d hx hy ps (a + 1) (stepC w h X Y F c d a p)]
    unfold stepC
    by_cases q1 : (y : Int) = Y + d ∧ (x : Int) = X + a
    · have e1 : (X + a).toNat = x := by omega
      have e2 : (Y + d).toNat = y := by omega
      rw [if_neg (by omega), if_pos (by omega), if_pos (by simp only [List.length_cons]; omega), e1, e2]
      unfold updC
      rw [if_pos ⟨rfl, rfl⟩, show ((x : Int) - X - a).toNat = 0 by omega]; rfl
    · have es : (if 0 ≤ X + a ∧ X + a < w ∧ 0 ≤ Y + d ∧ Y + d < h then updC c (X + a).toNat (Y + d).toNat (F p (c (X + a).toNat (Y + d).toNat)) else c) x y = c x y := by
        split
        · unfold updC
          rw [if_neg (by omega)]
        · rfl
      rw [es]
      by_cases q2 : (y : Int) = Y + d ∧ X + ↑(a + 1) ≤ x ∧ (x : Int) < X + ↑(a + 1) + ps.length
      · rw [if_pos q2, if_pos (by simp only [List.length_cons]; omega)]
        obtain ⟨n, hn⟩ : ∃ n, ((x : Int) - X - a).toNat = n + 1 := ⟨((x : Int) - X - a).toNat - 1, by omega⟩
        rw [hn, show ((x : Int) - X - ↑(a + 1)).toNat = n by omega]
        rfl
      · rw [if_neg q2, if_neg (by simp only [List.length_cons]; omega)]
theorem all_at {x y : Nat} (hx : x < w) (hy : y < h) : ∀ (rs : List (List C4)) (d : Nat) (c : Nat → Nat → C4), (∀ r ∈ rs, r.length = w2) → allC w h X Y F d rs c x y = if Y + d ≤ y ∧ (y : Int) < Y + d + rs.length ∧ X ≤ x ∧ (x : Int) < X + w2 then F ((rs.getD ((y : Int) - Y - d).toNat []).getD ((x : Int) - X).toNat (0, 0, 0, 0)) (c x y) else c x y
  | [], d, c, _ => by rw [allC, if_neg (by simp only [List.length_nil]; omega)]
  | r :: rs, d, c, hr => by
    have hl := hr r List.mem_cons_self
    rw [allC, all_at hx hy rs (d + 1) _ fun q hq => hr q (List.mem_cons_of_mem _ hq), row_at d hx hy]
    by_cases q1 : (y : Int) = Y + d
    · by_cases q3 : X ≤ x ∧ (x : Int) < X + w2
      · rw [if_neg (by omega), if_pos (by rw [hl]; omega), if_pos (by simp only [List.length_cons]; omega), show ((y : Int) - Y - d).toNat = 0 by omega, show ((x : Int) - X - (0 : Nat)).toNat = ((x : Int) - X).toNat by omega]; rfl
      · rw [if_neg (by omega), if_neg (by rw [hl]; omega), if_neg (by omega)]
    · rw [if_neg (c := (y : Int) = Y + d ∧ _) (by omega)]
      by_cases q2 : Y + ↑(d + 1) ≤ y ∧ (y : Int) < Y + ↑(d + 1) + rs.length ∧ X ≤ x ∧ (x : Int) < X + w2
      · rw [if_pos q2, if_pos (by simp only [List.length_cons]; omega)]
        obtain ⟨n, hn⟩ : ∃ n, ((y : Int) - Y - d).toNat = n + 1 := ⟨((y : Int) - Y - d).toNat - 1, by omega⟩
        rw [hn, show ((y : Int) - Y - ↑(d + 1)).toNat = n by omega]
        rfl
      · rw [if_neg q2, if_neg (by simp only [List.length_cons]; omega)]
theorem all_put {x y : Nat} (hx : x < w) (hy : y < h) : allC w h X Y F 0 (gridL w2 h2 c2) c x y = putC w2 h2 X Y F c c2 x y := by
  rw [all_at hx hy (gridL w2 h2 c2) 0 c grid_row, grid_len]
  unfold putC
  by_cases q : X ≤ x ∧ x < X + w2 ∧ Y ≤ y ∧ y < Y + h2
  · rw [if_pos q, if_pos (by omega)]
    congr 1
    rw [List.getD_eq_getElem?_getD (l := gridL w2 h2 c2), grid_get (by omega)]
    simp only [Option.getD_some]
    rw [List.getD_eq_getElem?_getD, List.getElem?_map, List.getElem?_range (by omega)]
    simp only [Option.map_some, Option.getD_some]
    congr 1
    omega
  · rw [if_neg q, if_neg (by omega)]
theorem okd_pic (n : Nat) {c : Nat → Nat → C4} : okd (n + 3) (picC w h c) = true := by
  show okd (n + 2 + 1) (.tup _) = true
  rw [okd_tup]
  simp only [List.all_cons, List.all_nil, okd_int, Bool.true_and, Bool.and_true]
  rw [okd_tup, List.all_eq_true]
  intro z hz
  obtain ⟨x, y, _, _, rfl⟩ := mem_grid hz
  exact okd_col n _
theorem put_eq (ht : tells L told F) (hw : 1 ≤ w ∧ w ≤ 1000) (hh : 1 ≤ h ∧ h ≤ 1000) (hw2 : w2 ≤ 1000) (hh2 : h2 ≤ 1000) (hc : okG w h c) (hc2 : okG w2 h2 c2) :
    m_put_over L [picC w h c, picC w2 h2 c2, .int X, .int Y, told] = M.pure (picC w h (putC w2 h2 X Y F c c2)) := by
  funext wd
  obtain ⟨t, o⟩ := wd
  have main : u_put_over L [picC w h c, picC w2 h2 c2, .int X, .int Y, told] ⟨t, o⟩ = .ok (picC w h (putC w2 h2 X Y F c c2)) ⟨t, o ++ List.replicate h none⟩ := by
    show p_put_over L _ _ _ _ _ ⟨t, o⟩ = _
    unfold p_put_over
    rw [call1 m_rows_of, call1 m_rows_of, rowsF _ hw.2 hh.2, rowsF _ hw2 hh2]
    have e1 : fLC (fItems (M.pure (.lst ((gridL w h fun x y => col (c x y)).map D.tup)))) (fun row_ => (fNewH (fCons (M.pure row_) fNil))) ⟨t, o⟩ = .ok (rowsH o.length h) ⟨t, o ++ obs w h c⟩ := by
      show M.bind (fMapM _ _) _ _ = _
      rw [ev (newrows t (gridL w h fun x y => col (c x y)) o fun r hr => ?_), grid_len]
      · rfl
      · obtain ⟨y, _, rfl⟩ := List.mem_map.mp hr
        exact ⟨okts_map (fun x => c x y) _, by rw [sizeIs]; simp; omega⟩
    rw [ev e1]
    have eg : (gridL w2 h2 fun x y => col (c2 x y)) = (gridL w2 h2 c2).map fun r => r.map col := by
      unfold gridL; rw [List.map_map]; refine List.map_congr_left fun y _ => ?_; simp
    rw [show fEnum (fCons (M.pure (.lst ((gridL w2 h2 fun x y => col (c2 x y)).map D.tup))) fNil) = M.pure (enumL 0 ((gridL w2 h2 fun x y => col (c2 x y)).map D.tup)) from rfl, Pm.pure_bind, eg, List.map_map, show (D.tup ∘ fun r : List C4 => List.map col r) = fun r => D.tup (r.map col) from rfl]
    have hr : ∀ r ∈ gridL w2 h2 c2, ∀ p ∈ r, okc p := fun r hr p hp => by
      obtain ⟨y, hy, rfl⟩ := List.mem_map.mp hr
      obtain ⟨x, hx, rfl⟩ := List.mem_map.mp hp
      exact hc2 x y (List.mem_range.mp hx) (List.mem_range.mp hy)
    rw [all_step (rs := gridL w2 h2 c2) ht hw.2 t o _ 0 hc hr]
    have ef : frzD (rowsH o.length h) ⟨t, o ++ obs w h (allC w h X Y F 0 (gridL w2 h2 c2) c)⟩ = .ok (.lst ((gridL w h fun x y => col (putC w2 h2 X Y F c c2 x y)).map D.lst)) ⟨t, o ++ List.replicate h none⟩ := by
      have z := frz_obs t (w := w) (h := h) (c := c) (gridL w h fun x y => col (allC w h X Y F 0 (gridL w2 h2 c2) c x y)) o
      rw [grid_len] at z
      unfold frzD
      simp only
      rw [z]
      simp only
      rw [grid_congr fun x y hx hy => by rw [all_put hx hy]]
    have eg2 : fCons (fFrz (M.pure (rowsH o.length h))) fNil ⟨t, o ++ obs w h (allC w h X Y F 0 (gridL w2 h2 c2) c)⟩ = .ok [.lst ((gridL w h fun x y => col (putC w2 h2 X Y F c c2 x y)).map D.lst)] ⟨t, o ++ List.replicate h none⟩ := by
      show M.bind (M.bind (M.pure (rowsH o.length h)) frzD) _ _ = _
      rw [Pm.pure_bind, ev ef]; rfl
    show M.bind _ m_of_rows _ = _
    rw [ev eg2, madeF (E := D.lst) (fun _ => rfl) (fun _ => rfl) _ hw hh]
    rfl
  show scopeF (u_put_over L) _ _ = _
  unfold scopeF
  rw [main]
  simp only
  rw [if_pos (okd_pic 37)]
  unfold cutW
  simp only [List.take_left']
  rfl
end
end Pm
end
noncomputable section
namespace Pm
open PySem
/-! ### pictures laid over pictures -/
theorem kw42 (m : Mf) (a b c d e f : D) : fCalK m true [e, f] (fCons (M.pure a) (fCons (M.pure b) (fCons (M.pure c) (fCons (M.pure d) fNil)))) fNil = m [a, b, c, d, e, f] := rfl
theorem kw42' (m : Mf) (a b c d e f : D) : fCalK m true [e, f] (M.pure [a, b, c, d]) (M.pure []) = m [a, b, c, d, e, f] := rfl
theorem for_skip {α : Type} {body : D → Unit → (Unit → M α) → M α} (k : Unit → M α) : ∀ xs : List D, (∀ x ∈ xs, ∀ k', body x () k' = k' ()) → fFor body xs () k = k ()
  | [], _ => rfl
  | x :: xs, h => by rw [for_cons, h x List.mem_cons_self, for_skip k xs fun y hy => h y (List.mem_cons_of_mem _ hy)]
def fadC (c : C4) (s : Int) : C4 := (c.1, c.2.1, c.2.2.1, rnd (c.2.2.2 * s) 255)
theorem ok_fad {c : C4} {s : Int} (hc : okc c) (hs : byt s) : okc (fadC c s) := by
  have m := mul_bd hc.2.2.2 hs
  exact ⟨hc.1, hc.2.1, hc.2.2.1, rnd_bd m.1 m.2⟩
theorem fad_eq (c : C4) {s : Int} (hs : byt s) : m_faded [col c, .int s] = M.pure (col (fadC c s)) := faded_eq (by unfold byt at hs; omega)
/-- a colour of a picture laid over one of another -/
def layF (w : Str) (s : Int) (p q : C4) : C4 := overC (blC w (fadC p s) q) q
theorem okd_mode {w : Str} (hw : w ∈ mW) (n : Nat) : okd n (.str w) = true := by
  unfold okd
  rcases mode_w hw with rfl | rfl | rfl | rfl | rfl | rfl | rfl | rfl <;> kernel_rfl
section
variable {L : Lams} {k : Nat} {w h w2 h2 : Nat} {c c2 : Nat → Nat → C4} {X Y : Int}
theorem tells_top (hn : (L.tx k).ps.length = 2) (hs : ∀ p q, L.sm k [] [p, q] = M.pure p) : tells L (.fn k (L.tx k) []) (fun p _ => p) := fun p q hp hq => by
  refine ⟨?_, hp⟩
  rw [fCF_fn, Pm.pure_bind, if_pos ⟨by simp only [List.nil_append, List.all_cons, List.all_nil, okd_col 39, Bool.and_true], by rw [hn]; rfl⟩, hs]
  rfl
theorem tells_lay (hn : (L.tx k).ps.length = 2) {m : Str} (hm : m ∈ mW) {s : Int} (hb : byt s) (hs : ∀ p q, L.sm k [.str m, .int s] [p, q] = fCall m_blended (fCons (fCall m_faded (fCons (M.pure p) (fCons (M.pure (.int s)) fNil))) (fCons (M.pure q) (fCons (M.pure (.str m)) fNil)))) : tells L (.fn k (L.tx k) [.str m, .int s]) (layF m s) := fun p q hp hq => by
  refine ⟨?_, ok_over (ok_blC hm (ok_fad hp hb) hq) hq⟩
  rw [fCF_fn, Pm.pure_bind, if_pos ⟨by simp only [List.cons_append, List.nil_append, List.all_cons, List.all_nil, okd_col 39, okd_int, okd_mode hm, Bool.and_true], by rw [hn]; rfl⟩, hs, call2 m_faded, fad_eq p hb, call3 m_blended, blended_eq hm (ok_fad hp hb) hq]
  rfl
theorem call_put {ds : List D} {F : C4 → C4 → C4} (ht : tells L (.fn k (L.tx k) ds) F) (hw : 1 ≤ w ∧ w ≤ 1000) (hh : 1 ≤ h ∧ h ≤ 1000) (hw2 : w2 ≤ 1000) (hh2 : h2 ≤ 1000) (hc : okG w h c) (hc2 : okG w2 h2 c2) :
    fCalL (m_put_over L) k (L.tx k) (M.pure ds) (fCons (M.pure (picC w h c)) (fCons (M.pure (picC w2 h2 c2)) (fCons (M.pure (.int X)) (fCons (M.pure (.int Y)) fNil)))) = M.pure (picC w h (putC w2 h2 X Y F c c2)) := by
  show (noEx (m_put_over L [picC w h c, picC w2 h2 c2, .int X, .int Y, .fn k (L.tx k) ds])).bind _ = _
  rw [put_eq ht hw hh hw2 hh2 hc hc2, noEx_pure, Pm.pure_bind, if_pos (okd_pic 37)]
end
theorem ok_put {w h w2 h2 : Nat} {c c2 : Nat → Nat → C4} {X Y : Int} {F : C4 → C4 → C4} (hF : ∀ p q, okc p → okc q → okc (F p q)) (hc : okG w h c) (hc2 : okG w2 h2 c2) : okG w h (putC w2 h2 X Y F c c2) := fun x y hx hy => by
  unfold putC
  split
  · exact hF _ _ (hc2 _ _ (by omega) (by omega)) (hc x y hx hy)
  · exact hc x y hx hy
theorem ok_lay {m : Str} (hm : m ∈ mW) {s : Int} (hb : byt s) : ∀ p q, okc p → okc q → okc (layF m s p q) := fun p q hp hq => ok_over (ok_blC hm (ok_fad hp hb) hq) hq
theorem okc0 : okc ((0, 0, 0, 0) : C4) := by simp only [okc]; omega
/-- a drawn picture, by places -/
theorem dr_pic {ns : List Int} {w h : Nat} {m : Int} (hn : ns.length ≤ 63) (hw : 1 ≤ w ∧ w ≤ 99) (hh : 1 ≤ h ∧ h ≤ 99) (hwh : w * h ≤ 1000) (hm : 1 ≤ m ∧ m ≤ 100) : Dr (14 * m.toNat + 2 * (w * h)) (m__law_drawn_picture [.scr ns, .town, .int w, .int h, .int m]) (fun d => ∃ c : Nat → Nat → C4, d = picC w h c ∧ ∀ x y, okc (c x y)) := by
  have e : ((w : Int) * (h : Int)) = ((w * h : Nat) : Int) := by simp
  have q := dr_picture (ns := ns) (w := (w : Int)) (h := (h : Int)) (m := m) hn (by omega) (by omega) (by rw [e]; omega) hm
  rw [e, Int.toNat_natCast] at q
  refine q.imp fun d ⟨cs, h1, h2, h3⟩ => ?_
  have hl : cs.length = w * h := by omega
  refine ⟨fun x y => cs.getD (y * w + x) default, ?_, fun x y => ?_⟩
  · rw [h1]
    unfold cells
    show _ = picF w h _
    unfold picF
    rw [← grid_map (f := col), ← of_cells hl]
  · show okc (cs.getD (y * w + x) default)
    rw [List.getD_eq_getElem?_getD]
    cases z : cs[y * w + x]? with
    | none => exact okc0
    | some v => exact h2 v (List.mem_of_getElem? z)
theorem ne_pic {w h : Nat} {c c' : Nat → Nat → C4} (e : ∀ x y, x < w → y < h → c x y = c' x y) : neD (picC w h c) (picC w h c') = some (.bl false) := by
  have q : picC w h c = picC w h c' := pic_congr fun x y hx hy => by rw [e x y hx hy]
  rw [q]
  exact o_ne_self (okd_pic 37)
/-! what laying plainly, with all, comes to -/
theorem rnd_whole {a : Int} (h : 0 ≤ a) : rnd (a * 255) 255 = a := by unfold rnd; omega
theorem fad_all {c : C4} (h : okc c) : fadC c 255 = c := by
  unfold fadC
  rw [rnd_whole h.2.2.2.1]
theorem bl_plain {t b : C4} (ht : okc t) (hb : okc b) : blC "plain" t b = t := by
  have e : ∀ {x y z : Int}, byt x → byt z → mP "plain" z x y = x := fun {x y z} hx hz => by
    unfold mP
    rw [mT_plain, ← Int.add_mul, show 255 - z + z = (255 : Int) by omega, Int.mul_comm]
    exact rnd_whole hx.1
  unfold blC
  rw [e ht.1 hb.2.2.2, e ht.2.1 hb.2.2.2, e ht.2.2.1 hb.2.2.2]
theorem lay_plain {p q : C4} (hp : okc p) (hq : okc q) : layF "plain" 255 p q = overC p q := by
  unfold layF
  rw [fad_all hp, bl_plain hp hq]
end Pm
end
noncomputable section
namespace Pm
open PySem
def p_placed (L_ : Lams) (picture_ : D) (other_ : D) (x_ : D) (y_ : D) : M D :=
  (fCalL (m_put_over L_) 0 (L_.tx 0) fNil (fCons (M.pure picture_) (fCons (M.pure other_) (fCons (M.pure x_) (fCons (M.pure y_) fNil)))))
def m_placed (L_ : Lams) : Mf := fun ds => match ds with
  | [picture_, other_, x_, y_] => p_placed L_ picture_ other_ x_ y_
  | _ => M.bad
def p_laid (L_ : Lams) (picture_ : D) (other_ : D) (x_ : D) (y_ : D) (mode_ : D) (share_ : D) : M D :=
  (M.bind (fCall m_must_be_mode (fCons (M.pure mode_) fNil)) fun _ =>
  (fCalL (m_put_over L_) 1 (L_.tx 1) (fCons (M.pure mode_) (fCons (M.pure share_) fNil)) (fCons (M.pure picture_) (fCons (M.pure other_) (fCons (M.pure x_) (fCons (M.pure y_) fNil))))))
def m_laid (L_ : Lams) : Mf := fun ds => match ds with
  | [picture_, other_, x_, y_, mode_, share_] => p_laid L_ picture_ other_ x_ y_ mode_ share_
  | _ => M.bad
def l1_law (_law_script_ : D) (_law_town_ : D) (_law_width_ : D) (_law_picture_ : D) (_law_colour_ : D) (_law_across_ : D) (_law_down_ : D) (_law_one_ : D) (_law_new_ : D) (_law_there_ : D) (_law_spot_ : D) (st_ : Unit) (k1_ : Unit → M D) : M D :=
  (M.bind (fTup (fCons (fBin modD (M.pure _law_spot_) (M.pure _law_width_)) (fCons (fBin fdivD (M.pure _law_spot_) (M.pure _law_width_)) fNil))) fun _law_here_ =>
  (M.bind (fCall m_cell_at (fCons (M.pure _law_picture_) (fCons (fBin ixD (M.pure _law_here_) (M.pure (D.int 0))) (fCons (fBin ixD (M.pure _law_here_) (M.pure (D.int 1))) fNil)))) fun _law_old_ =>
  (M.bind (fBin eqD (M.pure _law_here_) (fTup (fCons (M.pure _law_across_) (fCons (M.pure _law_down_) fNil)))) fun _law_hot_ =>
  (fIf (fOf (fBin neD (fCall m_cell_at (fCons (M.pure _law_new_) (fCons (fBin ixD (M.pure _law_here_) (M.pure (D.int 0))) (fCons (fBin ixD (M.pure _law_here_) (M.pure (D.int 1))) fNil)))) (fIf (fTru (M.pure _law_hot_)) (fCall m_laid_over (fCons (M.pure _law_colour_) (fCons (M.pure _law_old_) fNil))) (M.pure _law_old_))))
  (M.pure (D.bl false))
  (fIf (fOf (fBin neD (fCall m_cell_at (fCons (M.pure _law_there_) (fCons (fBin ixD (M.pure _law_here_) (M.pure (D.int 0))) (fCons (fBin ixD (M.pure _law_here_) (M.pure (D.int 1))) fNil)))) (fIf (fTru (M.pure _law_hot_)) (M.pure _law_colour_) (M.pure _law_old_))))
  (M.pure (D.bl false))
  (k1_ ()))))))
def l0_law (L_ : Lams) (_law_script_ : D) (_law_town_ : D) (_law_k_ : D) (st_ : Unit) (k0_ : Unit → M D) : M D :=
  (M.bind (fBin addD (M.pure (D.int 1)) (fCall m__law_draw (fCons (M.pure _law_script_) (fCons (M.pure _law_town_) (fCons (M.pure (D.int 5)) fNil))))) fun _law_width_ => (M.bind (fBin addD (M.pure (D.int 1)) (fCall m__law_draw (fCons (M.pure _law_script_) (fCons (M.pure _law_town_) (fCons (M.pure (D.int 5)) fNil))))) fun _law_height_ => 
  (M.bind (fCall m__law_drawn_picture (fCons (M.pure _law_script_) (fCons (M.pure _law_town_) (fCons (M.pure _law_width_) (fCons (M.pure _law_height_) (fCons (M.pure (D.int 4)) fNil)))))) fun _law_picture_ => (M.bind (fCall m__law_drawn_colour (fCons (M.pure _law_script_) (fCons (M.pure _law_town_) fNil))) fun _law_colour_ => 
  (M.bind (fCall m__law_draw (fCons (M.pure _law_script_) (fCons (M.pure _law_town_) (fCons (M.pure _law_width_) fNil)))) fun _law_across_ => (M.bind (fCall m__law_draw (fCons (M.pure _law_script_) (fCons (M.pure _law_town_) (fCons (M.pure _law_height_) fNil)))) fun _law_down_ => 
  (M.bind (fCall m_plain_one (fCons (M.pure (D.int 1)) (fCons (M.pure (D.int 1)) (fCons (M.pure _law_colour_) fNil)))) fun _law_one_ =>
  (M.bind (fCalK (m_laid L_) true [(.str "plain" : D), (.int 255 : D)] (fCons (M.pure _law_picture_) (fCons (M.pure _law_one_) (fCons (M.pure _law_across_) (fCons (M.pure _law_down_) fNil)))) fNil) fun _law_new_ => (M.bind (fCall (m_placed L_) (fCons (M.pure _law_picture_) (fCons (M.pure _law_one_) (fCons (M.pure _law_across_) (fCons (M.pure _law_down_) fNil))))) fun _law_there_ => 
  (M.bind (fRng (fCons (fBin mulD (M.pure _law_width_) (M.pure _law_height_)) fNil)) fun xs1_ => fFor (l1_law _law_script_ _law_town_ _law_width_ _law_picture_ _law_colour_ _law_across_ _law_down_ _law_one_ _law_new_ _law_there_) xs1_ () fun _ =>
  (fIf (fOrB (fOf (fBin neD (fCalK (m_laid L_) true [(.str "plain" : D), (.int 255 : D)] (fCons (M.pure _law_picture_) (fCons (M.pure _law_one_) (fCons (M.pure _law_width_) (fCons (M.pure _law_down_) fNil)))) fNil) (M.pure _law_picture_))) (fOf (fBin neD (fCall (m_placed L_) (fCons (M.pure _law_picture_) (fCons (M.pure _law_one_) (fCons (M.pure _law_across_) (fCons (fNeg (M.pure (D.int 1))) fNil))))) (M.pure _law_picture_))))
  (M.pure (D.bl false))
  (k0_ ()))))))))))))
def p_law (L_ : Lams) (_law_script_ : D) : M D :=
  (M.bind newTown fun _law_town_ =>
  (M.bind (fRng (fCons (M.pure (D.int 6)) fNil)) fun xs2_ => fFor (l0_law L_ _law_script_ _law_town_) xs2_ () fun _ =>
  (M.pure (D.bl true))))
def m_law (L_ : Lams) : Mf := fun ds => match ds with
  | [_law_script_] => p_law L_ _law_script_
  | _ => M.bad
def p_lam0 (top_ : D) (bottom_ : D) : M D :=
  (M.pure top_)
def p_lam1 (mode_ : D) (share_ : D) (top_ : D) (bottom_ : D) : M D :=
  (fCall m_blended (fCons (fCall m_faded (fCons (M.pure top_) (fCons (M.pure share_) fNil))) (fCons (M.pure bottom_) (fCons (M.pure mode_) fNil))))
def smK : Nat → List D → Mf := fun k => match k with
  | 0 => fun ds as => (match ds, as with
    | [], [top_, bottom_] => p_lam0 top_ bottom_
    | _, _ => M.bad)
  | 1 => fun ds as => (match ds, as with
    | [mode_, share_], [top_, bottom_] => p_lam1 mode_ share_ top_ bottom_
    | _, _ => M.bad)
  | _ => fun _ _ => M.bad
end Pm
end
namespace Lw
open PySem PySem.Spec PyProof.Rows L2 Pm

def topS (i : Nat) : Stmt := PySem.Challenge.pw_paintyard_k48_one_cell_laid.main.body.getD i (.Pass ⟨0, 0, 0, 0⟩)
structure Hd (K : PySem.W.Frag) (mg : Str → Option Value) : Prop where
  d__law_draw : Df K mg "_law_draw" (topS 24) ["_law_script", "_law_town", "_law_many"]
  d__law_pick : Df K mg "_law_pick" (topS 25) ["_law_script", "_law_town", "_law_some"]
  d__law_drawn_colour : Df K mg "_law_drawn_colour" (topS 26) ["_law_script", "_law_town"]
  d__law_drawn_picture : Df K mg "_law_drawn_picture" (topS 27) ["_law_script", "_law_town", "_law_width", "_law_height", "_law_many"]
  d_plain_one : Df K mg "plain_one" (topS 14) ["width", "height", "colour"]
  d_rows_of : Df K mg "rows_of" (topS 15) ["picture"]
  d_is_in : Df K mg "is_in" (topS 17) ["picture", "x", "y"]
  d_of_rows : Df K mg "of_rows" (topS 16) ["rows"]
  d_put_over : Df K mg "put_over" (topS 19) ["picture", "other", "x", "y", "told"]
  d_placed : DfM K mg "placed" (topS 20) ["picture", "other", "x", "y"]
  d_must_be_mode : Df K mg "must_be_mode" (topS 10) ["mode"]
  d_rounded : Df K mg "rounded" (topS 7) ["one", "by"]
  d_told_by : Df K mg "told_by" (topS 9) ["mode", "top", "bottom"]
  d_laid_over : Df K mg "laid_over" (topS 8) ["top", "bottom"]
  d_blended : Df K mg "blended" (topS 11) ["top", "bottom", "mode"]
  d_faded : Df K mg "faded" (topS 12) ["colour", "share"]
  d_laid : DfMK K mg "laid" (topS 21) [("mode", .str "plain"), ("share", .int 255)]
  d_cell_at : Df K mg "cell_at" (topS 18) ["picture", "x", "y"]
  d_law : Df K mg "law" (topS 28) ["_law_script"]
  nd : ((tabsK K).map (·.1)).Nodup
  k_MODES : Cg K mg "MODES" (.tup [(.str "plain"), (.str "times"), (.str "screen"), (.str "dark"), (.str "light"), (.str "add"), (.str "less"), (.str "apart")])
  k_CLEAR : Cg K mg "CLEAR" (.tup [(.int 0), (.int 0), (.int 0), (.int 0)])
  x_BadMode : Xk K mg "BadMode"
  x_NoCell : Xk K mg "NoCell"
  n_abs : mg "abs" = none
  n_enumerate : mg "enumerate" = none
  n_len : mg "len" = none
  n_list : mg "list" = none
  n_max : mg "max" = none
  n_min : mg "min" = none
  n_range : mg "range" = none
  n_tuple : mg "tuple" = none
  n_zip : mg "zip" = none
theorem sc__law_draw : FnScope ["_law_script", "_law_town", "_law_many", "_law_k", "_law_cell", "_law_digits", "_law_number", "_law_more"] ["_law_script", "_law_town", "_law_many"] (defScope (topS 24)) := ⟨rfl, rfl, rfl, by decide +kernel, rfl, by decide +kernel, by decide +kernel⟩
theorem sc__law_pick : FnScope ["_law_script", "_law_town", "_law_some"] ["_law_script", "_law_town", "_law_some"] (defScope (topS 25)) := ⟨rfl, rfl, rfl, by decide +kernel, rfl, by decide +kernel, by decide +kernel⟩
theorem sc__law_drawn_colour : FnScope ["_law_script", "_law_town", "_law_some", "_law_parts", "_law_k"] ["_law_script", "_law_town"] (defScope (topS 26)) := ⟨rfl, rfl, rfl, by decide +kernel, rfl, by decide +kernel, by decide +kernel⟩
theorem sc__law_drawn_picture : FnScope ["_law_script", "_law_town", "_law_width", "_law_height", "_law_many", "_law_some", "_law_k"] ["_law_script", "_law_town", "_law_width", "_law_height", "_law_many"] (defScope (topS 27)) := ⟨rfl, rfl, rfl, by decide +kernel, rfl, by decide +kernel, by decide +kernel⟩
theorem sc_plain_one : FnScope ["width", "height", "colour"] ["width", "height", "colour"] (defScope (topS 14)) := ⟨rfl, rfl, rfl, by decide +kernel, rfl, by decide +kernel, by decide +kernel⟩
theorem sc_rows_of : FnScope ["picture", "width", "height", "cells", "y"] ["picture"] (defScope (topS 15)) := ⟨rfl, rfl, rfl, by decide +kernel, rfl, by decide +kernel, by decide +kernel⟩
theorem sc_is_in : FnScope ["picture", "x", "y"] ["picture", "x", "y"] (defScope (topS 17)) := ⟨rfl, rfl, rfl, by decide +kernel, rfl, by decide +kernel, by decide +kernel⟩
theorem sc_of_rows : FnScope ["rows", "row", "cell"] ["rows"] (defScope (topS 16)) := ⟨rfl, rfl, rfl, by decide +kernel, rfl, by decide +kernel, by decide +kernel⟩
theorem sc_put_over : FnScope ["picture", "other", "x", "y", "told", "rows", "down", "row", "across", "cell"] ["picture", "other", "x", "y", "told"] (defScope (topS 19)) := ⟨rfl, rfl, rfl, by decide +kernel, rfl, by decide +kernel, by decide +kernel⟩
theorem sc_placed : FnScope ["picture", "other", "x", "y"] ["picture", "other", "x", "y"] (defScope (topS 20)) := ⟨rfl, rfl, rfl, by decide +kernel, rfl, by decide +kernel, by decide +kernel⟩
theorem sc_must_be_mode : FnScope ["mode"] ["mode"] (defScope (topS 10)) := ⟨rfl, rfl, rfl, by decide +kernel, rfl, by decide +kernel, by decide +kernel⟩
theorem sc_rounded : FnScope ["one", "by"] ["one", "by"] (defScope (topS 7)) := ⟨rfl, rfl, rfl, by decide +kernel, rfl, by decide +kernel, by decide +kernel⟩
theorem sc_told_by : FnScope ["mode", "top", "bottom"] ["mode", "top", "bottom"] (defScope (topS 9)) := ⟨rfl, rfl, rfl, by decide +kernel, rfl, by decide +kernel, by decide +kernel⟩
theorem sc_laid_over : FnScope ["top", "bottom", "high", "low", "whole", "parts", "left", "right"] ["top", "bottom"] (defScope (topS 8)) := ⟨rfl, rfl, rfl, by decide +kernel, rfl, by decide +kernel, by decide +kernel⟩
theorem sc_blended : FnScope ["top", "bottom", "mode", "cover", "parts", "left", "right"] ["top", "bottom", "mode"] (defScope (topS 11)) := ⟨rfl, rfl, rfl, by decide +kernel, rfl, by decide +kernel, by decide +kernel⟩
theorem sc_faded : FnScope ["colour", "share"] ["colour", "share"] (defScope (topS 12)) := ⟨rfl, rfl, rfl, by decide +kernel, rfl, by decide +kernel, by decide +kernel⟩
theorem sc_laid : FnScope ["picture", "other", "x", "y", "mode", "share"] ["picture", "other", "x", "y", "mode", "share"] (defScope (topS 21)) := ⟨rfl, rfl, rfl, by decide +kernel, rfl, by decide +kernel, by decide +kernel⟩
theorem sc_cell_at : FnScope ["picture", "x", "y"] ["picture", "x", "y"] (defScope (topS 18)) := ⟨rfl, rfl, rfl, by decide +kernel, rfl, by decide +kernel, by decide +kernel⟩
theorem sc_law : FnScope ["_law_script", "_law_town", "_law_k", "_law_width", "_law_height", "_law_picture", "_law_colour", "_law_across", "_law_down", "_law_one", "_law_new", "_law_there", "_law_spot", "_law_here", "_law_old", "_law_hot"] ["_law_script"] (defScope (topS 28)) := ⟨rfl, rfl, rfl, by decide +kernel, rfl, by decide +kernel, by decide +kernel⟩
def lamT0 : LT := lamOf "placed" (defBody (topS 20)) ["top", "bottom"] []
def lamT1 : LT := lamOf "laid" (defBody (topS 21)) ["top", "bottom"] ["mode", "share"]
def lamTx : Nat → LT := fun k => match k with
  | 0 => lamT0
  | 1 => lamT1
  | _ => lamT0
def lamsK : Lams := ⟨lamTx, smK⟩
section
variable {P : Program} {w : World} {K : PySem.W.Frag} {mg : Str → Option Value} {base : Heap}
theorem lsc_0 : MScope ["top", "bottom"] lamT0.ps lamT0.fr lamT0.scope := mscope_by (by kernel_rfl)
theorem lam_0 (h : Hd K mg) : LamOk P w K mg base 1 lamT0 (smK 0) := by
  refine lamOk_mix (N := ["top", "bottom"]) (body := lamBody (defBody (topS 20))) (by kernel_rfl) lsc_0 (fun cl c doc pm ctv us hl => match us, hl with | [_, _], _ => by kernel_rfl) fun f c cl A outer s H hr => ?_
  have hN := lsc_0.nd
  have hu := hr.units
  have hc : (lcx P w K mg base ["top", "bottom"] lamT0 cl c f A outer s H).calm = true := rfl
  exact ⟨_, (m_var 0), fun ds as h1 h2 => match ds, as, h1, h2 with | [], [_, _], _, _ => by kernel_rfl⟩
theorem lsc_1 : MScope ["top", "bottom", "mode", "share"] lamT1.ps lamT1.fr lamT1.scope := mscope_by (by kernel_rfl)
theorem lam_1 (h : Hd K mg) (h_faded : Cal P w K mg base 2 "faded" ["colour", "share"] m_faded) (h_blended : Cal P w K mg base 3 "blended" ["top", "bottom", "mode"] m_blended) : LamOk P w K mg base 4 lamT1 (smK 1) := by
  refine lamOk_mix (N := ["top", "bottom", "mode", "share"]) (body := lamBody (defBody (topS 21))) (by kernel_rfl) lsc_1 (fun cl c doc pm ctv us hl => match us, hl with | [_, _], _ => by kernel_rfl) fun f c cl A outer s H hr => ?_
  have hN := lsc_1.nd
  have hu := hr.units
  have hc : (lcx P w K mg base ["top", "bottom", "mode", "share"] lamT1 cl c f A outer s H).calm = true := rfl
  exact ⟨_, (m_cal (h_blended.mono (by omega)) rfl hr takes0 (ma_cons (m_cal (h_faded.mono (by omega)) rfl hr takes0 (ma_cons (m_var 0) (ma_cons (m_var 3) ma_nil)) (cnt_cons (cnt_cons cnt_nil))) (ma_cons (m_var 1) (ma_cons (m_var 2) ma_nil))) (cnt_cons (cnt_cons (cnt_cons cnt_nil)))), fun ds as h1 h2 => match ds, as, h1, h2 with | [_, _], [_, _], _, _ => by kernel_rfl⟩
theorem body__law_draw (h : Hd K mg) : Bdy P w K mg base ["_law_script", "_law_town", "_law_many", "_law_k", "_law_cell", "_law_digits", "_law_number", "_law_more"] 3 "_law_draw" (topS 24) 0 m__law_draw := by
  intro f cdv A outer s H E hr
  have hN := sc__law_draw.nd
  have hu := hr.units
  have hc : (cxOf (L2.CX P w) P w K mg base ["_law_script", "_law_town", "_law_many", "_law_k", "_law_cell", "_law_digits", "_law_number", "_law_more"] "_law_draw" (defScope (topS 24)) f cdv A outer s H E).calm = true := rfl
  have tk : Takes (cxOf (L2.CX P w) P w K mg base ["_law_script", "_law_town", "_law_many", "_law_k", "_law_cell", "_law_digits", "_law_number", "_law_more"] "_law_draw" (defScope (topS 24)) f cdv A outer s H E) (fun cls d _ H => E cls d H) := takes_of rfl rfl rfl rfl
  have hp : PassesOwn (model P w) (cxOf (L2.CX P w) P w K mg base ["_law_script", "_law_town", "_law_many", "_law_k", "_law_cell", "_law_digits", "_law_number", "_law_more"] "_law_draw" (defScope (topS 24)) f cdv A outer s H E).A (cxOf (L2.CX P w) P w K mg base ["_law_script", "_law_town", "_law_many", "_law_k", "_law_cell", "_law_digits", "_law_number", "_law_more"] "_law_draw" (defScope (topS 24)) f cdv A outer s H E).env (cxOf (L2.CX P w) P w K mg base ["_law_script", "_law_town", "_law_many", "_law_k", "_law_cell", "_law_digits", "_law_number", "_law_more"] "_law_draw" (defScope (topS 24)) f cdv A outer s H E).xe := passes_of rfl
  exact ⟨_, (ms_cons (ms_if (mt_not (mt_tw 1)) (ms_one (ms_twApp 1 (m_max hc hu (mr_cons (r_of (m_bin op_addM so_add ot_add (r_of (m_lc hc hN (mi_of (m_var 0)) (own := [("_law_cell", 4)]) (blkOk_by (by kernel_rfl)) (by decide) (fun _ _ _ _ _ => (mgn 4 hN)) (fun _ _ _ _ _ => (m_abs (mr_cons (r_of (m_var 4)) mr_nil) h.n_abs)))) (r_of (m_lst (n := 1) (ma_cons m_int ma_nil) (cnt_cons cnt_nil))))) mr_nil) h.n_max))) ms_nil)
    (ms_cons (ms_twApp 1 m_int)
    (ms_cons (msv 3 hN (m_twLen 1 h.n_len))
    (ms_cons (msv 4 hN (m_if (mt_truth (r_of (m_var 0))) (m_ix (r_of (m_var 0)) (r_of (m_bin op_mod so_mod ot_mod (r_of (m_var 3)) (r_of (m_len (mr_cons (r_of (m_var 0)) mr_nil) h.n_len))))) m_int))
    (ms_cons (msv 5 hN (m_bin op_mod so_mod ot_mod (r_of (m_twAt0 1)) (r_of m_int)))
    (ms_cons (ms_twSet 1 (m_bin op_fdiv so_fdiv ot_fdiv (r_of (m_twAt0 1)) (r_of m_int)))
    (ms_cons (msv 6 hN (m_bin op_mod so_mod ot_mod (r_of (m_bin op_addM so_add ot_add (r_of (m_bin op_addM so_add ot_add (r_of (m_var 4)) (r_of (m_bin op_mulM so_mul ot_mul (r_of m_int) (r_of (m_var 5)))))) (r_of (m_bin op_mulM so_mul ot_mul (r_of m_int) (r_of (m_var 3)))))) (r_of m_int)))
    (ms_cons (msv 6 hN (m_bin op_mod so_mod ot_mod (r_of (m_bin op_mulM so_mul ot_mul (r_of (m_bin op_mod so_mod ot_mod (r_of (m_bin op_mulM so_mul ot_mul (r_of (m_var 6)) (r_of (m_var 6)))) (r_of m_int))) (r_of m_int))) (r_of m_int)))
    (ms_cons (msv 7 hN (m_bin op_mod so_mod ot_mod (r_of (m_bin op_mulM so_mul ot_mul (r_of (m_bin op_mod so_mod ot_mod (r_of (m_bin op_mulM so_mul ot_mul (r_of (m_var 6)) (r_of (m_var 6)))) (r_of m_int))) (r_of m_int))) (r_of m_int)))
    (ms_one (ms_ret (r_of (m_bin op_mod so_mod ot_mod (r_of (m_bin op_addM so_add ot_add (r_of (m_bin op_mulM so_mul ot_mul (r_of (m_bin op_fdiv so_fdiv ot_fdiv (r_of (m_var 6)) (r_of m_int))) (r_of m_int))) (r_of (m_bin op_fdiv so_fdiv ot_fdiv (r_of (m_var 7)) (r_of m_int))))) (r_of (m_var 2))))))))))))))), fun ds hl => match ds, hl with | [_, _, _], _ => by kernel_rfl⟩
theorem c__law_draw (h : Hd K mg) : Cal P w K mg base 1 "_law_draw" ["_law_script", "_law_town", "_law_many"] m__law_draw := cal_of h.d__law_draw sc__law_draw rfl (body__law_draw h )
theorem body__law_pick (h : Hd K mg) (h__law_draw : Cal P w K mg base 1 "_law_draw" ["_law_script", "_law_town", "_law_many"] m__law_draw) : Bdy P w K mg base ["_law_script", "_law_town", "_law_some"] 3 "_law_pick" (topS 25) 1 m__law_pick := by
  intro f cdv A outer s H E hr
  have hN := sc__law_pick.nd
  have hu := hr.units
  have hc : (cxOf (L2.CX P w) P w K mg base ["_law_script", "_law_town", "_law_some"] "_law_pick" (defScope (topS 25)) f cdv A outer s H E).calm = true := rfl
  have tk : Takes (cxOf (L2.CX P w) P w K mg base ["_law_script", "_law_town", "_law_some"] "_law_pick" (defScope (topS 25)) f cdv A outer s H E) (fun cls d _ H => E cls d H) := takes_of rfl rfl rfl rfl
  have hp : PassesOwn (model P w) (cxOf (L2.CX P w) P w K mg base ["_law_script", "_law_town", "_law_some"] "_law_pick" (defScope (topS 25)) f cdv A outer s H E).A (cxOf (L2.CX P w) P w K mg base ["_law_script", "_law_town", "_law_some"] "_law_pick" (defScope (topS 25)) f cdv A outer s H E).env (cxOf (L2.CX P w) P w K mg base ["_law_script", "_law_town", "_law_some"] "_law_pick" (defScope (topS 25)) f cdv A outer s H E).xe := passes_of rfl
  exact ⟨_, (ms_one (ms_ret (r_of (m_ix (r_of (m_var 2)) (r_of (m_cal (h__law_draw.mono (by omega)) rfl hr tk (ma_cons (m_var 0) (ma_cons (m_var 1) (ma_cons (m_len (mr_cons (r_of (m_var 2)) mr_nil) h.n_len) ma_nil))) (cnt_cons (cnt_cons (cnt_cons cnt_nil))))))))), fun ds hl => match ds, hl with | [_, _, _], _ => by kernel_rfl⟩
theorem c__law_pick (h : Hd K mg) (h__law_draw : Cal P w K mg base 1 "_law_draw" ["_law_script", "_law_town", "_law_many"] m__law_draw) : Cal P w K mg base 2 "_law_pick" ["_law_script", "_law_town", "_law_some"] m__law_pick := cal_of h.d__law_pick sc__law_pick rfl (body__law_pick h h__law_draw)
theorem body__law_drawn_colour (h : Hd K mg) (h__law_draw : Cal P w K mg base 1 "_law_draw" ["_law_script", "_law_town", "_law_many"] m__law_draw) (h__law_pick : Cal P w K mg base 2 "_law_pick" ["_law_script", "_law_town", "_law_some"] m__law_pick) : Bdy P w K mg base ["_law_script", "_law_town", "_law_some", "_law_parts", "_law_k"] 2 "_law_drawn_colour" (topS 26) 2 m__law_drawn_colour := by
  intro f cdv A outer s H E hr
  have hN := sc__law_drawn_colour.nd
  have hu := hr.units
  have hc : (cxOf (L2.CX P w) P w K mg base ["_law_script", "_law_town", "_law_some", "_law_parts", "_law_k"] "_law_drawn_colour" (defScope (topS 26)) f cdv A outer s H E).calm = true := rfl
  have tk : Takes (cxOf (L2.CX P w) P w K mg base ["_law_script", "_law_town", "_law_some", "_law_parts", "_law_k"] "_law_drawn_colour" (defScope (topS 26)) f cdv A outer s H E) (fun cls d _ H => E cls d H) := takes_of rfl rfl rfl rfl
  have hp : PassesOwn (model P w) (cxOf (L2.CX P w) P w K mg base ["_law_script", "_law_town", "_law_some", "_law_parts", "_law_k"] "_law_drawn_colour" (defScope (topS 26)) f cdv A outer s H E).A (cxOf (L2.CX P w) P w K mg base ["_law_script", "_law_town", "_law_some", "_law_parts", "_law_k"] "_law_drawn_colour" (defScope (topS 26)) f cdv A outer s H E).env (cxOf (L2.CX P w) P w K mg base ["_law_script", "_law_town", "_law_some", "_law_parts", "_law_k"] "_law_drawn_colour" (defScope (topS 26)) f cdv A outer s H E).xe := passes_of rfl
  exact ⟨_, (ms_cons (msv 2 hN (m_lst (n := 4) (ma_cons m_int (ma_cons m_int (ma_cons (m_cal (h__law_draw.mono (by omega)) rfl hr tk (ma_cons (m_var 0) (ma_cons (m_var 1) (ma_cons m_int ma_nil))) (cnt_cons (cnt_cons (cnt_cons cnt_nil)))) (ma_cons (m_cal (h__law_draw.mono (by omega)) rfl hr tk (ma_cons (m_var 0) (ma_cons (m_var 1) (ma_cons m_int ma_nil))) (cnt_cons (cnt_cons (cnt_cons cnt_nil)))) ma_nil)))) (cnt_c4 cnt_nil)))
    (ms_cons (ms_setLc (i := 3) hc hN rfl rfl (sw_true rfl rfl rfl rfl) (mi_range1 h.n_range (ma_cons m_int ma_nil) (cnt_cons cnt_nil)) (own := [("_law_k", 4)]) (blkOk_by (by kernel_rfl)) (by decide) (fun _ _ _ _ _ => (mgn 4 hN)) (fun _ _ _ _ _ => (m_cal (h__law_pick.mono (by omega)) rfl hr takes0 (ma_cons (m_var 0) (ma_cons (m_var 1) (ma_cons (m_var 2) ma_nil))) (cnt_cons (cnt_cons (cnt_cons cnt_nil))))))
    (ms_one (ms_ret (r_of (m_tup (n := 4) (ma_cons (m_ix (r_of (m_var 3)) (r_of m_int)) (ma_cons (m_ix (r_of (m_var 3)) (r_of m_int)) (ma_cons (m_ix (r_of (m_var 3)) (r_of m_int)) (ma_cons (m_cal (h__law_pick.mono (by omega)) rfl hr tk (ma_cons (m_var 0) (ma_cons (m_var 1) (ma_cons (m_lst (n := 4) (ma_cons m_int (ma_cons m_int (ma_cons m_int (ma_cons (m_cal (h__law_draw.mono (by omega)) rfl hr tk (ma_cons (m_var 0) (ma_cons (m_var 1) (ma_cons m_int ma_nil))) (cnt_cons (cnt_cons (cnt_cons cnt_nil)))) ma_nil)))) (cnt_c4 cnt_nil)) ma_nil))) (cnt_cons (cnt_cons (cnt_cons cnt_nil)))) ma_nil)))) (cnt_c4 cnt_nil))))))), fun ds hl => match ds, hl with | [_, _], _ => by kernel_rfl⟩
theorem c__law_drawn_colour (h : Hd K mg) (h__law_draw : Cal P w K mg base 1 "_law_draw" ["_law_script", "_law_town", "_law_many"] m__law_draw) (h__law_pick : Cal P w K mg base 2 "_law_pick" ["_law_script", "_law_town", "_law_some"] m__law_pick) : Cal P w K mg base 3 "_law_drawn_colour" ["_law_script", "_law_town"] m__law_drawn_colour := cal_of h.d__law_drawn_colour sc__law_drawn_colour rfl (body__law_drawn_colour h h__law_draw h__law_pick)
theorem body__law_drawn_picture (h : Hd K mg) (h__law_drawn_colour : Cal P w K mg base 3 "_law_drawn_colour" ["_law_script", "_law_town"] m__law_drawn_colour) (h__law_pick : Cal P w K mg base 2 "_law_pick" ["_law_script", "_law_town", "_law_some"] m__law_pick) : Bdy P w K mg base ["_law_script", "_law_town", "_law_width", "_law_height", "_law_many", "_law_some", "_law_k"] 5 "_law_drawn_picture" (topS 27) 3 m__law_drawn_picture := by
  intro f cdv A outer s H E hr
  have hN := sc__law_drawn_picture.nd
  have hu := hr.units
  have hc : (cxOf (L2.CX P w) P w K mg base ["_law_script", "_law_town", "_law_width", "_law_height", "_law_many", "_law_some", "_law_k"] "_law_drawn_picture" (defScope (topS 27)) f cdv A outer s H E).calm = true := rfl
  have tk : Takes (cxOf (L2.CX P w) P w K mg base ["_law_script", "_law_town", "_law_width", "_law_height", "_law_many", "_law_some", "_law_k"] "_law_drawn_picture" (defScope (topS 27)) f cdv A outer s H E) (fun cls d _ H => E cls d H) := takes_of rfl rfl rfl rfl
  have hp : PassesOwn (model P w) (cxOf (L2.CX P w) P w K mg base ["_law_script", "_law_town", "_law_width", "_law_height", "_law_many", "_law_some", "_law_k"] "_law_drawn_picture" (defScope (topS 27)) f cdv A outer s H E).A (cxOf (L2.CX P w) P w K mg base ["_law_script", "_law_town", "_law_width", "_law_height", "_law_many", "_law_some", "_law_k"] "_law_drawn_picture" (defScope (topS 27)) f cdv A outer s H E).env (cxOf (L2.CX P w) P w K mg base ["_law_script", "_law_town", "_law_width", "_law_height", "_law_many", "_law_some", "_law_k"] "_law_drawn_picture" (defScope (topS 27)) f cdv A outer s H E).xe := passes_of rfl
  exact ⟨_, (ms_cons (msv 5 hN (m_lc hc hN (mi_range1 h.n_range (ma_cons (m_var 4) ma_nil) (cnt_cons cnt_nil)) (own := [("_law_k", 6)]) (blkOk_by (by kernel_rfl)) (by decide) (fun _ _ _ _ _ => (mgn 6 hN)) (fun _ _ _ _ _ => (m_cal (h__law_drawn_colour.mono (by omega)) rfl hr takes0 (ma_cons (m_var 0) (ma_cons (m_var 1) ma_nil)) (cnt_cons (cnt_cons cnt_nil))))))
    (ms_one (ms_ret (r_of (m_tup (n := 3) (ma_cons (m_var 2) (ma_cons (m_var 3) (ma_cons (m_tuple (mr_cons (r_of (m_lc hc hN (mi_range1 h.n_range (ma_cons (m_bin op_mulM so_mul ot_mul (r_of (m_var 2)) (r_of (m_var 3))) ma_nil) (cnt_cons cnt_nil)) (own := [("_law_k", 6)]) (blkOk_by (by kernel_rfl)) (by decide) (fun _ _ _ _ _ => (mgn 6 hN)) (fun _ _ _ _ _ => (m_cal (h__law_pick.mono (by omega)) rfl hr takes0 (ma_cons (m_var 0) (ma_cons (m_var 1) (ma_cons (m_var 5) ma_nil))) (cnt_cons (cnt_cons (cnt_cons cnt_nil))))))) mr_nil) h.n_tuple) ma_nil))) (cnt_cons (cnt_cons (cnt_cons cnt_nil)))))))), fun ds hl => match ds, hl with | [_, _, _, _, _], _ => by kernel_rfl⟩
theorem c__law_drawn_picture (h : Hd K mg) (h__law_drawn_colour : Cal P w K mg base 3 "_law_drawn_colour" ["_law_script", "_law_town"] m__law_drawn_colour) (h__law_pick : Cal P w K mg base 2 "_law_pick" ["_law_script", "_law_town", "_law_some"] m__law_pick) : Cal P w K mg base 4 "_law_drawn_picture" ["_law_script", "_law_town", "_law_width", "_law_height", "_law_many"] m__law_drawn_picture := cal_of h.d__law_drawn_picture sc__law_drawn_picture rfl (body__law_drawn_picture h h__law_drawn_colour h__law_pick)
theorem body_plain_one (h : Hd K mg) : Bdy P w K mg base ["width", "height", "colour"] 3 "plain_one" (topS 14) 0 m_plain_one := by
  intro f cdv A outer s H E hr
  have hN := sc_plain_one.nd
  have hu := hr.units
  have hc : (cxOf (L2.CX P w) P w K mg base ["width", "height", "colour"] "plain_one" (defScope (topS 14)) f cdv A outer s H E).calm = true := rfl
  have tk : Takes (cxOf (L2.CX P w) P w K mg base ["width", "height", "colour"] "plain_one" (defScope (topS 14)) f cdv A outer s H E) (fun cls d _ H => E cls d H) := takes_of rfl rfl rfl rfl
  have hp : PassesOwn (model P w) (cxOf (L2.CX P w) P w K mg base ["width", "height", "colour"] "plain_one" (defScope (topS 14)) f cdv A outer s H E).A (cxOf (L2.CX P w) P w K mg base ["width", "height", "colour"] "plain_one" (defScope (topS 14)) f cdv A outer s H E).env (cxOf (L2.CX P w) P w K mg base ["width", "height", "colour"] "plain_one" (defScope (topS 14)) f cdv A outer s H E).xe := passes_of rfl
  exact ⟨_, (ms_one (ms_ret (r_of (m_tup (n := 3) (ma_cons (m_var 0) (ma_cons (m_var 1) (ma_cons (m_bin op_mulM so_mul ot_mul (r_of (m_tup (n := 1) (ma_cons (m_var 2) ma_nil) (cnt_cons cnt_nil))) (r_of (m_bin op_mulM so_mul ot_mul (r_of (m_var 0)) (r_of (m_var 1))))) ma_nil))) (cnt_cons (cnt_cons (cnt_cons cnt_nil))))))), fun ds hl => match ds, hl with | [_, _, _], _ => by kernel_rfl⟩
theorem c_plain_one (h : Hd K mg) : Cal P w K mg base 1 "plain_one" ["width", "height", "colour"] m_plain_one := cal_of h.d_plain_one sc_plain_one rfl (body_plain_one h )
theorem body_rows_of (h : Hd K mg) : Bdy P w K mg base ["picture", "width", "height", "cells", "y"] 1 "rows_of" (topS 15) 0 m_rows_of := by
  intro f cdv A outer s H E hr
  have hN := sc_rows_of.nd
  have hu := hr.units
  have hc : (cxOf (L2.CX P w) P w K mg base ["picture", "width", "height", "cells", "y"] "rows_of" (defScope (topS 15)) f cdv A outer s H E).calm = true := rfl
  have tk : Takes (cxOf (L2.CX P w) P w K mg base ["picture", "width", "height", "cells", "y"] "rows_of" (defScope (topS 15)) f cdv A outer s H E) (fun cls d _ H => E cls d H) := takes_of rfl rfl rfl rfl
  have hp : PassesOwn (model P w) (cxOf (L2.CX P w) P w K mg base ["picture", "width", "height", "cells", "y"] "rows_of" (defScope (topS 15)) f cdv A outer s H E).A (cxOf (L2.CX P w) P w K mg base ["picture", "width", "height", "cells", "y"] "rows_of" (defScope (topS 15)) f cdv A outer s H E).env (cxOf (L2.CX P w) P w K mg base ["picture", "width", "height", "cells", "y"] "rows_of" (defScope (topS 15)) f cdv A outer s H E).xe := passes_of rfl
  exact ⟨_, (ms_cons (ms_asg (m_var 0) (mg_tup3 hc (mgn 1 hN) (mgn 2 hN) (mgn 3 hN)))
    (ms_one (ms_ret (r_of (m_lc hc hN (mi_range1 h.n_range (ma_cons (m_var 2) ma_nil) (cnt_cons cnt_nil)) (own := [("y", 4)]) (blkOk_by (by kernel_rfl)) (by decide) (fun _ _ _ _ _ => (mgn 4 hN)) (fun _ _ _ _ _ => (m_sl (r_of (m_var 3)) (mo_some (m_bin op_mulM so_mul ot_mul (r_of (m_var 4)) (r_of (m_var 1)))) (mo_some (m_bin op_mulM so_mul ot_mul (r_of (m_bin op_addM so_add ot_add (r_of (m_var 4)) (r_of m_int))) (r_of (m_var 1))))))))))), fun ds hl => match ds, hl with | [_], _ => by kernel_rfl⟩
theorem c_rows_of (h : Hd K mg) : Cal P w K mg base 1 "rows_of" ["picture"] m_rows_of := cal_of h.d_rows_of sc_rows_of rfl (body_rows_of h )
theorem body_is_in (h : Hd K mg) : Bdy P w K mg base ["picture", "x", "y"] 3 "is_in" (topS 17) 0 m_is_in := by
  intro f cdv A outer s H E hr
  have hN := sc_is_in.nd
  have hu := hr.units
  have hc : (cxOf (L2.CX P w) P w K mg base ["picture", "x", "y"] "is_in" (defScope (topS 17)) f cdv A outer s H E).calm = true := rfl
  have tk : Takes (cxOf (L2.CX P w) P w K mg base ["picture", "x", "y"] "is_in" (defScope (topS 17)) f cdv A outer s H E) (fun cls d _ H => E cls d H) := takes_of rfl rfl rfl rfl
  have hp : PassesOwn (model P w) (cxOf (L2.CX P w) P w K mg base ["picture", "x", "y"] "is_in" (defScope (topS 17)) f cdv A outer s H E).A (cxOf (L2.CX P w) P w K mg base ["picture", "x", "y"] "is_in" (defScope (topS 17)) f cdv A outer s H E).env (cxOf (L2.CX P w) P w K mg base ["picture", "x", "y"] "is_in" (defScope (topS 17)) f cdv A outer s H E).xe := passes_of rfl
  exact ⟨_, (ms_one (ms_ret (r_of (m_and (m_chain op_leM so_le ot_le op_lt so_lt ot_lt (r_of m_int) (r_of (m_var 1)) (r_of (m_ix (r_of (m_var 0)) (r_of m_int)))) (m_one (m_chain op_leM so_le ot_le op_lt so_lt ot_lt (r_of m_int) (r_of (m_var 2)) (r_of (m_ix (r_of (m_var 0)) (r_of m_int))))))))), fun ds hl => match ds, hl with | [_, _, _], _ => by kernel_rfl⟩
theorem c_is_in (h : Hd K mg) : Cal P w K mg base 1 "is_in" ["picture", "x", "y"] m_is_in := cal_of h.d_is_in sc_is_in rfl (body_is_in h )
theorem body_of_rows (h : Hd K mg) : Bdy P w K mg base ["rows", "row", "cell"] 1 "of_rows" (topS 16) 0 m_of_rows := by
  intro f cdv A outer s H E hr
  have hN := sc_of_rows.nd
  have hu := hr.units
  have hc : (cxOf (L2.CX P w) P w K mg base ["rows", "row", "cell"] "of_rows" (defScope (topS 16)) f cdv A outer s H E).calm = true := rfl
  have tk : Takes (cxOf (L2.CX P w) P w K mg base ["rows", "row", "cell"] "of_rows" (defScope (topS 16)) f cdv A outer s H E) (fun cls d _ H => E cls d H) := takes_of rfl rfl rfl rfl
  have hp : PassesOwn (model P w) (cxOf (L2.CX P w) P w K mg base ["rows", "row", "cell"] "of_rows" (defScope (topS 16)) f cdv A outer s H E).A (cxOf (L2.CX P w) P w K mg base ["rows", "row", "cell"] "of_rows" (defScope (topS 16)) f cdv A outer s H E).env (cxOf (L2.CX P w) P w K mg base ["rows", "row", "cell"] "of_rows" (defScope (topS 16)) f cdv A outer s H E).xe := passes_of rfl
  exact ⟨_, (ms_one (ms_ret (r_of (m_tup (n := 3) (ma_cons (m_len (mr_cons (r_of (m_ix (r_of (m_var 0)) (r_of m_int))) mr_nil) h.n_len) (ma_cons (m_len (mr_cons (r_of (m_var 0)) mr_nil) h.n_len) (ma_cons (m_tuple (mr_cons (r_of (m_lc2 [2] hc hN (mi_of (m_var 0)) (own := [("row", 1), ("cell", 2)]) (blkOk_by (by kernel_rfl)) (by decide) (by decide) (by decide) (fun _ _ _ _ _ => (mgn 1 hN)) (fun _ _ _ _ _ => (mi_of (m_var 1))) (fun _ _ _ _ _ => (mgn 2 hN)) (fun _ _ _ _ _ => (m_var 2)))) mr_nil) h.n_tuple) ma_nil))) (cnt_cons (cnt_cons (cnt_cons cnt_nil))))))), fun ds hl => match ds, hl with | [_], _ => by kernel_rfl⟩
theorem c_of_rows (h : Hd K mg) : Cal P w K mg base 1 "of_rows" ["rows"] m_of_rows := cal_of h.d_of_rows sc_of_rows rfl (body_of_rows h )
theorem body_put_over (h : Hd K mg) (h_lam : ∀ j, LamOk P w K mg base 12 (lamsK.tx j) (lamsK.sm j)) (h_rows_of : Cal P w K mg base 1 "rows_of" ["picture"] m_rows_of) (h_is_in : Cal P w K mg base 1 "is_in" ["picture", "x", "y"] m_is_in) (h_of_rows : Cal P w K mg base 1 "of_rows" ["rows"] m_of_rows) : Bdy P w K mg base ["picture", "other", "x", "y", "told", "rows", "down", "row", "across", "cell"] 5 "put_over" (topS 19) 12 (u_put_over lamsK) := by
  intro f cdv A outer s H E hr
  have hN := sc_put_over.nd
  have hu := hr.units
  have hc : (cxOf (L2.CX P w) P w K mg base ["picture", "other", "x", "y", "told", "rows", "down", "row", "across", "cell"] "put_over" (defScope (topS 19)) f cdv A outer s H E).calm = true := rfl
  have tk : Takes (cxOf (L2.CX P w) P w K mg base ["picture", "other", "x", "y", "told", "rows", "down", "row", "across", "cell"] "put_over" (defScope (topS 19)) f cdv A outer s H E) (fun cls d _ H => E cls d H) := takes_of rfl rfl rfl rfl
  have hp : PassesOwn (model P w) (cxOf (L2.CX P w) P w K mg base ["picture", "other", "x", "y", "told", "rows", "down", "row", "across", "cell"] "put_over" (defScope (topS 19)) f cdv A outer s H E).A (cxOf (L2.CX P w) P w K mg base ["picture", "other", "x", "y", "told", "rows", "down", "row", "across", "cell"] "put_over" (defScope (topS 19)) f cdv A outer s H E).env (cxOf (L2.CX P w) P w K mg base ["picture", "other", "x", "y", "told", "rows", "down", "row", "across", "cell"] "put_over" (defScope (topS 19)) f cdv A outer s H E).xe := passes_of rfl
  exact ⟨_, (ms_cons (ms_setLc (i := 5) hc hN rfl rfl (sw_true rfl rfl rfl rfl) (mi_of (m_cal (h_rows_of.mono (by omega)) rfl hr tk (ma_cons (m_var 0) ma_nil) (cnt_cons cnt_nil))) (own := [("row", 7)]) (blkOk_by (by kernel_rfl)) (by decide) (fun _ _ _ _ _ => (mgn 7 hN)) (fun _ _ _ _ _ => (m_newH (mr_cons (r_of (m_var 7)) mr_nil) h.n_list)))
    (ms_cons (ms_for [1, 6, 7, 8, 9] (fun (e : D × D × D × D × D) (st : Unit) => [.va e.1, .no, .va e.2.1, .va e.2.2.1, .va e.2.2.2.1, .va e.2.2.2.2, .no, .no, .no, .no]) (fun sl => match sl with | [.va p0, .no, .va p2, .va p3, .va p4, .va p5, .no, .no, .no, .no] => some ((p0, p2, p3, p4, p5), ()) | _ => none) (fun e => l0_put_over lamsK e.1 e.2.1 e.2.2.1 e.2.2.2.1 e.2.2.2.2) hp (mi_enum h.n_enumerate (ma_cons (m_cal (h_rows_of.mono (by omega)) rfl hr tk (ma_cons (m_var 1) ma_nil) (cnt_cons cnt_nil)) ma_nil)) (mg_tup2 hc (mgn 6 hN) (mgn 7 hN)) (ms_one (ms_for [1, 7, 8, 9] (fun (e : D × D × D × D × D × D) (st : Unit) => [.va e.1, .no, .va e.2.1, .va e.2.2.1, .va e.2.2.2.1, .va e.2.2.2.2.1, .va e.2.2.2.2.2, .no, .no, .no]) (fun sl => match sl with | [.va p0, .no, .va p2, .va p3, .va p4, .va p5, .va p6, .no, .no, .no] => some ((p0, p2, p3, p4, p5, p6), ()) | _ => none) (fun e => l1_put_over lamsK e.1 e.2.1 e.2.2.1 e.2.2.2.1 e.2.2.2.2.1 e.2.2.2.2.2) hp (mi_enum h.n_enumerate (ma_cons (m_var 7) ma_nil)) (mg_tup2 hc (mgn 8 hN) (mgn 9 hN)) (ms_one (ms_if (mt_truth (r_of (m_cal (h_is_in.mono (by omega)) rfl hr tk (ma_cons (m_var 0) (ma_cons (m_bin op_addM so_add ot_add (r_of (m_var 2)) (r_of (m_var 8))) (ma_cons (m_bin op_addM so_add ot_add (r_of (m_var 3)) (r_of (m_var 6))) ma_nil))) (cnt_cons (cnt_cons (cnt_cons cnt_nil)))))) (ms_one (ms_subH (m_ix (r_of (m_var 5)) (r_of (m_bin op_addM so_add ot_add (r_of (m_var 3)) (r_of (m_var 6))))) (m_bin op_addM so_add ot_add (r_of (m_var 2)) (r_of (m_var 8))) (m_calF 4 h_lam (Room.mono hr (by omega)) (ma_cons (m_var 9) (ma_cons (m_ixH (m_ix (r_of (m_var 5)) (r_of (m_bin op_addM so_add ot_add (r_of (m_var 3)) (r_of (m_var 6))))) (r_of (m_bin op_addM so_add ot_add (r_of (m_var 2)) (r_of (m_var 8))))) ma_nil))))) ms_nil)) (by intros; kernel_rfl) (by intro sl e st h; (try dsimp only at h); split at h <;> cases h <;> rfl))) (by intros; kernel_rfl) (by intro sl e st h; (try dsimp only at h); split at h <;> cases h <;> rfl))
    (ms_one (ms_ret (r_of (m_cal (h_of_rows.mono (by omega)) rfl hr tk (ma_cons (m_frzE (m_var 5)) ma_nil) (cnt_cons cnt_nil))))))), fun ds hl => match ds, hl with | [_, _, _, _, _], _ => by kernel_rfl⟩
theorem c_put_over (h : Hd K mg) (h_lam : ∀ j, LamOk P w K mg base 12 (lamsK.tx j) (lamsK.sm j)) (h_rows_of : Cal P w K mg base 1 "rows_of" ["picture"] m_rows_of) (h_is_in : Cal P w K mg base 1 "is_in" ["picture", "x", "y"] m_is_in) (h_of_rows : Cal P w K mg base 1 "of_rows" ["rows"] m_of_rows) : Cal P w K mg base 13 "put_over" ["picture", "other", "x", "y", "told"] (m_put_over lamsK) := Cal.scope (cal_of h.d_put_over sc_put_over rfl (body_put_over h h_lam h_rows_of h_is_in h_of_rows))
theorem body_placed (h : Hd K mg) (h_tbs : TBs K mg base) (h_put_over : Cal P w K mg base 13 "put_over" ["picture", "other", "x", "y", "told"] (m_put_over lamsK)) : BdyM P w K mg base ["picture", "other", "x", "y"] 4 "placed" (topS 20) 13 (m_placed lamsK) := by
  intro f c TT A outer s H E hct hr
  have hN := sc_placed.nd
  have hu := hr.units
  have hc : (cxOf (L2.CX P w) P w K mg base ["picture", "other", "x", "y"] "placed" (defScope (topS 20)) f (.ref c) A outer s H E).calm = true := rfl
  have tk : Takes (cxOf (L2.CX P w) P w K mg base ["picture", "other", "x", "y"] "placed" (defScope (topS 20)) f (.ref c) A outer s H E) (fun cls d _ H => E cls d H) := takes_of rfl rfl rfl rfl
  have hp : PassesOwn (model P w) (cxOf (L2.CX P w) P w K mg base ["picture", "other", "x", "y"] "placed" (defScope (topS 20)) f (.ref c) A outer s H E).A (cxOf (L2.CX P w) P w K mg base ["picture", "other", "x", "y"] "placed" (defScope (topS 20)) f (.ref c) A outer s H E).env (cxOf (L2.CX P w) P w K mg base ["picture", "other", "x", "y"] "placed" (defScope (topS 20)) f (.ref c) A outer s H E).xe := passes_of rfl
  exact ⟨_, (ms_one (ms_ret (r_of (m_calL (kk := 0) (T := lamsK.tx 0) (js := []) (h_put_over.mono (by omega)) rfl hr (mal_cons (m_var 0) (mal_cons (m_var 1) (mal_cons (m_var 2) (mal_cons (m_var 3) (mal_one (mkr_by (x := "placed") hct h_tbs h.nd rfl rfl (by kernel_rfl) (by kernel_rfl) (by kernel_rfl) (by kernel_rfl) (by kernel_rfl) (by kernel_rfl) rfl (by kernel_rfl))))))) (cnt_c4 cnt_nil) (fun _ => rfl) (by kernel_rfl) (nfr_by (by kernel_rfl)) (caps_by (by kernel_rfl) (by kernel_rfl) (by kernel_rfl)))))), fun ds hl => match ds, hl with | [_, _, _, _], _ => by kernel_rfl⟩
theorem c_placed (h : Hd K mg) (h_tbs : TBs K mg base) (h_put_over : Cal P w K mg base 13 "put_over" ["picture", "other", "x", "y", "told"] (m_put_over lamsK)) : Cal P w K mg base 14 "placed" ["picture", "other", "x", "y"] (m_placed lamsK) := cal_ofM h.d_placed sc_placed rfl (body_placed h h_tbs h_put_over)
theorem body_must_be_mode (h : Hd K mg) : Bdy P w K mg base ["mode"] 1 "must_be_mode" (topS 10) 0 m_must_be_mode := by
  intro f cdv A outer s H E hr
  have hN := sc_must_be_mode.nd
  have hu := hr.units
  have hc : (cxOf (L2.CX P w) P w K mg base ["mode"] "must_be_mode" (defScope (topS 10)) f cdv A outer s H E).calm = true := rfl
  have tk : Takes (cxOf (L2.CX P w) P w K mg base ["mode"] "must_be_mode" (defScope (topS 10)) f cdv A outer s H E) (fun cls d _ H => E cls d H) := takes_of rfl rfl rfl rfl
  have hp : PassesOwn (model P w) (cxOf (L2.CX P w) P w K mg base ["mode"] "must_be_mode" (defScope (topS 10)) f cdv A outer s H E).A (cxOf (L2.CX P w) P w K mg base ["mode"] "must_be_mode" (defScope (topS 10)) f cdv A outer s H E).env (cxOf (L2.CX P w) P w K mg base ["mode"] "must_be_mode" (defScope (topS 10)) f cdv A outer s H E).xe := passes_of rfl
  exact ⟨_, (ms_one (ms_if (mt_cmp (op_ninM (un65 hr)) so_nin ot_nin (r_of (m_var 0)) (r_of (m_cst h.k_MODES))) (ms_one (ms_raiseX h.x_BadMode tk)) ms_nil)), fun ds hl => match ds, hl with | [_], _ => by kernel_rfl⟩
theorem c_must_be_mode (h : Hd K mg) : Cal P w K mg base 1 "must_be_mode" ["mode"] m_must_be_mode := cal_of h.d_must_be_mode sc_must_be_mode rfl (body_must_be_mode h )
theorem body_rounded (h : Hd K mg) : Bdy P w K mg base ["one", "by"] 2 "rounded" (topS 7) 0 m_rounded := by
  intro f cdv A outer s H E hr
  have hN := sc_rounded.nd
  have hu := hr.units
  have hc : (cxOf (L2.CX P w) P w K mg base ["one", "by"] "rounded" (defScope (topS 7)) f cdv A outer s H E).calm = true := rfl
  have tk : Takes (cxOf (L2.CX P w) P w K mg base ["one", "by"] "rounded" (defScope (topS 7)) f cdv A outer s H E) (fun cls d _ H => E cls d H) := takes_of rfl rfl rfl rfl
  have hp : PassesOwn (model P w) (cxOf (L2.CX P w) P w K mg base ["one", "by"] "rounded" (defScope (topS 7)) f cdv A outer s H E).A (cxOf (L2.CX P w) P w K mg base ["one", "by"] "rounded" (defScope (topS 7)) f cdv A outer s H E).env (cxOf (L2.CX P w) P w K mg base ["one", "by"] "rounded" (defScope (topS 7)) f cdv A outer s H E).xe := passes_of rfl
  exact ⟨_, (ms_one (ms_ret (r_of (m_bin op_fdiv so_fdiv ot_fdiv (r_of (m_bin op_addM so_add ot_add (r_of (m_bin op_mulM so_mul ot_mul (r_of m_int) (r_of (m_var 0)))) (r_of (m_var 1)))) (r_of (m_bin op_mulM so_mul ot_mul (r_of m_int) (r_of (m_var 1)))))))), fun ds hl => match ds, hl with | [_, _], _ => by kernel_rfl⟩
theorem c_rounded (h : Hd K mg) : Cal P w K mg base 1 "rounded" ["one", "by"] m_rounded := cal_of h.d_rounded sc_rounded rfl (body_rounded h )
theorem body_told_by (h : Hd K mg) (h_rounded : Cal P w K mg base 1 "rounded" ["one", "by"] m_rounded) : Bdy P w K mg base ["mode", "top", "bottom"] 3 "told_by" (topS 9) 1 m_told_by := by
  intro f cdv A outer s H E hr
  have hN := sc_told_by.nd
  have hu := hr.units
  have hc : (cxOf (L2.CX P w) P w K mg base ["mode", "top", "bottom"] "told_by" (defScope (topS 9)) f cdv A outer s H E).calm = true := rfl
  have tk : Takes (cxOf (L2.CX P w) P w K mg base ["mode", "top", "bottom"] "told_by" (defScope (topS 9)) f cdv A outer s H E) (fun cls d _ H => E cls d H) := takes_of rfl rfl rfl rfl
  have hp : PassesOwn (model P w) (cxOf (L2.CX P w) P w K mg base ["mode", "top", "bottom"] "told_by" (defScope (topS 9)) f cdv A outer s H E).A (cxOf (L2.CX P w) P w K mg base ["mode", "top", "bottom"] "told_by" (defScope (topS 9)) f cdv A outer s H E).env (cxOf (L2.CX P w) P w K mg base ["mode", "top", "bottom"] "told_by" (defScope (topS 9)) f cdv A outer s H E).xe := passes_of rfl
  exact ⟨_, (ms_cons (ms_if (mt_cmp (op_eqM hu) so_eq ot_eq (r_of (m_var 0)) (r_of m_str)) (ms_one (ms_ret (r_of (m_cal (h_rounded.mono (by omega)) rfl hr tk (ma_cons (m_bin op_mulM so_mul ot_mul (r_of (m_var 1)) (r_of (m_var 2))) (ma_cons m_int ma_nil)) (cnt_cons (cnt_cons cnt_nil)))))) ms_nil)
    (ms_cons (ms_if (mt_cmp (op_eqM hu) so_eq ot_eq (r_of (m_var 0)) (r_of m_str)) (ms_one (ms_ret (r_of (m_bin op_sub so_sub ot_sub (r_of m_int) (r_of (m_cal (h_rounded.mono (by omega)) rfl hr tk (ma_cons (m_bin op_mulM so_mul ot_mul (r_of (m_bin op_sub so_sub ot_sub (r_of m_int) (r_of (m_var 1)))) (r_of (m_bin op_sub so_sub ot_sub (r_of m_int) (r_of (m_var 2))))) (ma_cons m_int ma_nil)) (cnt_cons (cnt_cons cnt_nil)))))))) ms_nil)
    (ms_cons (ms_if (mt_cmp (op_eqM hu) so_eq ot_eq (r_of (m_var 0)) (r_of m_str)) (ms_one (ms_ret (r_of (m_min hc hu (mr_cons (r_of (m_var 1)) (mr_cons (r_of (m_var 2)) mr_nil)) h.n_min)))) ms_nil)
    (ms_cons (ms_if (mt_cmp (op_eqM hu) so_eq ot_eq (r_of (m_var 0)) (r_of m_str)) (ms_one (ms_ret (r_of (m_max hc hu (mr_cons (r_of (m_var 1)) (mr_cons (r_of (m_var 2)) mr_nil)) h.n_max)))) ms_nil)
    (ms_cons (ms_if (mt_cmp (op_eqM hu) so_eq ot_eq (r_of (m_var 0)) (r_of m_str)) (ms_one (ms_ret (r_of (m_min hc hu (mr_cons (r_of m_int) (mr_cons (r_of (m_bin op_addM so_add ot_add (r_of (m_var 1)) (r_of (m_var 2)))) mr_nil)) h.n_min)))) ms_nil)
    (ms_cons (ms_if (mt_cmp (op_eqM hu) so_eq ot_eq (r_of (m_var 0)) (r_of m_str)) (ms_one (ms_ret (r_of (m_max hc hu (mr_cons (r_of m_int) (mr_cons (r_of (m_bin op_sub so_sub ot_sub (r_of (m_var 2)) (r_of (m_var 1)))) mr_nil)) h.n_max)))) ms_nil)
    (ms_one (ms_ret (r_if (mt_cmp (op_eqM hu) so_eq ot_eq (r_of (m_var 0)) (r_of m_str)) (r_of (m_abs (mr_cons (r_of (m_bin op_sub so_sub ot_sub (r_of (m_var 1)) (r_of (m_var 2)))) mr_nil) h.n_abs)) (r_of (m_var 1))))))))))), fun ds hl => match ds, hl with | [_, _, _], _ => by kernel_rfl⟩
theorem c_told_by (h : Hd K mg) (h_rounded : Cal P w K mg base 1 "rounded" ["one", "by"] m_rounded) : Cal P w K mg base 2 "told_by" ["mode", "top", "bottom"] m_told_by := cal_of h.d_told_by sc_told_by rfl (body_told_by h h_rounded)
theorem body_laid_over (h : Hd K mg) (h_rounded : Cal P w K mg base 1 "rounded" ["one", "by"] m_rounded) : Bdy P w K mg base ["top", "bottom", "high", "low", "whole", "parts", "left", "right"] 2 "laid_over" (topS 8) 1 m_laid_over := by
  intro f cdv A outer s H E hr
  have hN := sc_laid_over.nd
  have hu := hr.units
  have hc : (cxOf (L2.CX P w) P w K mg base ["top", "bottom", "high", "low", "whole", "parts", "left", "right"] "laid_over" (defScope (topS 8)) f cdv A outer s H E).calm = true := rfl
  have tk : Takes (cxOf (L2.CX P w) P w K mg base ["top", "bottom", "high", "low", "whole", "parts", "left", "right"] "laid_over" (defScope (topS 8)) f cdv A outer s H E) (fun cls d _ H => E cls d H) := takes_of rfl rfl rfl rfl
  have hp : PassesOwn (model P w) (cxOf (L2.CX P w) P w K mg base ["top", "bottom", "high", "low", "whole", "parts", "left", "right"] "laid_over" (defScope (topS 8)) f cdv A outer s H E).A (cxOf (L2.CX P w) P w K mg base ["top", "bottom", "high", "low", "whole", "parts", "left", "right"] "laid_over" (defScope (topS 8)) f cdv A outer s H E).env (cxOf (L2.CX P w) P w K mg base ["top", "bottom", "high", "low", "whole", "parts", "left", "right"] "laid_over" (defScope (topS 8)) f cdv A outer s H E).xe := passes_of rfl
  exact ⟨_, (ms_cons (ms_asg (m_tup (n := 2) (ma_cons (m_bin op_mulM so_mul ot_mul (r_of m_int) (r_of (m_ix (r_of (m_var 0)) (r_of m_int)))) (ma_cons (m_bin op_mulM so_mul ot_mul (r_of (m_ix (r_of (m_var 1)) (r_of m_int))) (r_of (m_bin op_sub so_sub ot_sub (r_of m_int) (r_of (m_ix (r_of (m_var 0)) (r_of m_int)))))) ma_nil)) (cnt_cons (cnt_cons cnt_nil))) (mg_tup2 hc (mgn 2 hN) (mgn 3 hN)))
    (ms_cons (msv 4 hN (m_bin op_addM so_add ot_add (r_of (m_var 2)) (r_of (m_var 3))))
    (ms_cons (ms_if (mt_cmp (op_eqM hu) so_eq ot_eq (r_of (m_var 4)) (r_of m_int)) (ms_one (ms_ret (r_of (m_cst h.k_CLEAR)))) ms_nil)
    (ms_cons (ms_setLc (i := 5) hc hN rfl rfl (sw_true rfl rfl rfl rfl) (mi_zip h.n_zip (ma_cons (m_sl (r_of (m_var 0)) mo_none (mo_some m_int)) (ma_cons (m_sl (r_of (m_var 1)) mo_none (mo_some m_int)) ma_nil))) (own := [("left", 6), ("right", 7)]) (blkOk_by (by kernel_rfl)) (by decide) (fun _ _ _ _ _ => (mg_tup2 hc (mgn 6 hN) (mgn 7 hN))) (fun _ _ _ _ _ => (m_cal (h_rounded.mono (by omega)) rfl hr takes0 (ma_cons (m_bin op_addM so_add ot_add (r_of (m_bin op_mulM so_mul ot_mul (r_of (m_var 2)) (r_of (m_var 6)))) (r_of (m_bin op_mulM so_mul ot_mul (r_of (m_var 3)) (r_of (m_var 7))))) (ma_cons (m_var 4) ma_nil)) (cnt_cons (cnt_cons cnt_nil)))))
    (ms_one (ms_ret (r_of (m_tup (n := 4) (ma_cons (m_ix (r_of (m_var 5)) (r_of m_int)) (ma_cons (m_ix (r_of (m_var 5)) (r_of m_int)) (ma_cons (m_ix (r_of (m_var 5)) (r_of m_int)) (ma_cons (m_cal (h_rounded.mono (by omega)) rfl hr tk (ma_cons (m_var 4) (ma_cons m_int ma_nil)) (cnt_cons (cnt_cons cnt_nil))) ma_nil)))) (cnt_c4 cnt_nil))))))))), fun ds hl => match ds, hl with | [_, _], _ => by kernel_rfl⟩
theorem c_laid_over (h : Hd K mg) (h_rounded : Cal P w K mg base 1 "rounded" ["one", "by"] m_rounded) : Cal P w K mg base 2 "laid_over" ["top", "bottom"] m_laid_over := cal_of h.d_laid_over sc_laid_over rfl (body_laid_over h h_rounded)
theorem body_blended (h : Hd K mg) (h_must_be_mode : Cal P w K mg base 1 "must_be_mode" ["mode"] m_must_be_mode) (h_told_by : Cal P w K mg base 2 "told_by" ["mode", "top", "bottom"] m_told_by) (h_rounded : Cal P w K mg base 1 "rounded" ["one", "by"] m_rounded) (h_laid_over : Cal P w K mg base 2 "laid_over" ["top", "bottom"] m_laid_over) : Bdy P w K mg base ["top", "bottom", "mode", "cover", "parts", "left", "right"] 3 "blended" (topS 11) 2 m_blended := by
  intro f cdv A outer s H E hr
  have hN := sc_blended.nd
  have hu := hr.units
  have hc : (cxOf (L2.CX P w) P w K mg base ["top", "bottom", "mode", "cover", "parts", "left", "right"] "blended" (defScope (topS 11)) f cdv A outer s H E).calm = true := rfl
  have tk : Takes (cxOf (L2.CX P w) P w K mg base ["top", "bottom", "mode", "cover", "parts", "left", "right"] "blended" (defScope (topS 11)) f cdv A outer s H E) (fun cls d _ H => E cls d H) := takes_of rfl rfl rfl rfl
  have hp : PassesOwn (model P w) (cxOf (L2.CX P w) P w K mg base ["top", "bottom", "mode", "cover", "parts", "left", "right"] "blended" (defScope (topS 11)) f cdv A outer s H E).A (cxOf (L2.CX P w) P w K mg base ["top", "bottom", "mode", "cover", "parts", "left", "right"] "blended" (defScope (topS 11)) f cdv A outer s H E).env (cxOf (L2.CX P w) P w K mg base ["top", "bottom", "mode", "cover", "parts", "left", "right"] "blended" (defScope (topS 11)) f cdv A outer s H E).xe := passes_of rfl
  exact ⟨_, (ms_cons (ms_expr (r_of (m_cal (h_must_be_mode.mono (by omega)) rfl hr tk (ma_cons (m_var 2) ma_nil) (cnt_cons cnt_nil))))
    (ms_cons (ms_par2 hN (i := 3) (j := 4) rfl rfl (by decide) rfl rfl (mh_va (m_ix (r_of (m_var 1)) (r_of m_int)) (mh_ow (mf_lst (n := 0) ma_nil cnt_nil) mh_nil)) (cnh_va (cnh_ow cnh_nil)))
    (ms_cons (ms_for [5, 6] (fun (e : D × D × D × D) (st : D) => [.va e.1, .va e.2.1, .va e.2.2.1, .va e.2.2.2, .ow st, .no, .no]) (fun sl => match sl with | [.va p0, .va p1, .va p2, .va p3, .ow p4, .no, .no] => some ((p0, p1, p2, p3), p4) | _ => none) (fun e => l0_blended e.1 e.2.1 e.2.2.1 e.2.2.2) hp (mi_zip h.n_zip (ma_cons (m_sl (r_of (m_var 0)) mo_none (mo_some m_int)) (ma_cons (m_sl (r_of (m_var 1)) mo_none (mo_some m_int)) ma_nil))) (mg_tup2 hc (mgn 5 hN) (mgn 6 hN)) (ms_one (ms_app 4 (m_cal (h_rounded.mono (by omega)) rfl hr tk (ma_cons (m_bin op_addM so_add ot_add (r_of (m_bin op_mulM so_mul ot_mul (r_of (m_bin op_sub so_sub ot_sub (r_of m_int) (r_of (m_var 3)))) (r_of (m_var 5)))) (r_of (m_bin op_mulM so_mul ot_mul (r_of (m_var 3)) (r_of (m_cal (h_told_by.mono (by omega)) rfl hr tk (ma_cons (m_var 2) (ma_cons (m_var 5) (ma_cons (m_var 6) ma_nil))) (cnt_cons (cnt_cons (cnt_cons cnt_nil)))))))) (ma_cons m_int ma_nil)) (cnt_cons (cnt_cons cnt_nil))))) (by intros; kernel_rfl) (by intro sl e st h; (try dsimp only at h); split at h <;> cases h <;> rfl))
    (ms_one (ms_ret (r_of (m_cal (h_laid_over.mono (by omega)) rfl hr tk (ma_cons (m_tup (n := 4) (ma_cons (m_ix (r_var 4) (r_of m_int)) (ma_cons (m_ix (r_var 4) (r_of m_int)) (ma_cons (m_ix (r_var 4) (r_of m_int)) (ma_cons (m_ix (r_of (m_var 0)) (r_of m_int)) ma_nil)))) (cnt_c4 cnt_nil)) (ma_cons (m_var 1) ma_nil)) (cnt_cons (cnt_cons cnt_nil))))))))), fun ds hl => match ds, hl with | [_, _, _], _ => by kernel_rfl⟩
theorem c_blended (h : Hd K mg) (h_must_be_mode : Cal P w K mg base 1 "must_be_mode" ["mode"] m_must_be_mode) (h_told_by : Cal P w K mg base 2 "told_by" ["mode", "top", "bottom"] m_told_by) (h_rounded : Cal P w K mg base 1 "rounded" ["one", "by"] m_rounded) (h_laid_over : Cal P w K mg base 2 "laid_over" ["top", "bottom"] m_laid_over) : Cal P w K mg base 3 "blended" ["top", "bottom", "mode"] m_blended := cal_of h.d_blended sc_blended rfl (body_blended h h_must_be_mode h_told_by h_rounded h_laid_over)
theorem body_faded (h : Hd K mg) (h_rounded : Cal P w K mg base 1 "rounded" ["one", "by"] m_rounded) : Bdy P w K mg base ["colour", "share"] 2 "faded" (topS 12) 1 m_faded := by
  intro f cdv A outer s H E hr
  have hN := sc_faded.nd
  have hu := hr.units
  have hc : (cxOf (L2.CX P w) P w K mg base ["colour", "share"] "faded" (defScope (topS 12)) f cdv A outer s H E).calm = true := rfl
  have tk : Takes (cxOf (L2.CX P w) P w K mg base ["colour", "share"] "faded" (defScope (topS 12)) f cdv A outer s H E) (fun cls d _ H => E cls d H) := takes_of rfl rfl rfl rfl
  have hp : PassesOwn (model P w) (cxOf (L2.CX P w) P w K mg base ["colour", "share"] "faded" (defScope (topS 12)) f cdv A outer s H E).A (cxOf (L2.CX P w) P w K mg base ["colour", "share"] "faded" (defScope (topS 12)) f cdv A outer s H E).env (cxOf (L2.CX P w) P w K mg base ["colour", "share"] "faded" (defScope (topS 12)) f cdv A outer s H E).xe := passes_of rfl
  exact ⟨_, (ms_one (ms_ret (r_of (m_bin op_addM so_add ot_add (r_of (m_sl (r_of (m_var 0)) mo_none (mo_some m_int))) (r_of (m_tup (n := 1) (ma_cons (m_cal (h_rounded.mono (by omega)) rfl hr tk (ma_cons (m_bin op_mulM so_mul ot_mul (r_of (m_ix (r_of (m_var 0)) (r_of m_int))) (r_of (m_var 1))) (ma_cons m_int ma_nil)) (cnt_cons (cnt_cons cnt_nil))) ma_nil) (cnt_cons cnt_nil))))))), fun ds hl => match ds, hl with | [_, _], _ => by kernel_rfl⟩
theorem c_faded (h : Hd K mg) (h_rounded : Cal P w K mg base 1 "rounded" ["one", "by"] m_rounded) : Cal P w K mg base 2 "faded" ["colour", "share"] m_faded := cal_of h.d_faded sc_faded rfl (body_faded h h_rounded)
theorem body_laid (h : Hd K mg) (h_tbs : TBs K mg base) (h_must_be_mode : Cal P w K mg base 1 "must_be_mode" ["mode"] m_must_be_mode) (h_put_over : Cal P w K mg base 13 "put_over" ["picture", "other", "x", "y", "told"] (m_put_over lamsK)) : BdyM P w K mg base ["picture", "other", "x", "y", "mode", "share"] 6 "laid" (topS 21) 13 (m_laid lamsK) := by
  intro f c TT A outer s H E hct hr
  have hN := sc_laid.nd
  have hu := hr.units
  have hc : (cxOf (L2.CX P w) P w K mg base ["picture", "other", "x", "y", "mode", "share"] "laid" (defScope (topS 21)) f (.ref c) A outer s H E).calm = true := rfl
  have tk : Takes (cxOf (L2.CX P w) P w K mg base ["picture", "other", "x", "y", "mode", "share"] "laid" (defScope (topS 21)) f (.ref c) A outer s H E) (fun cls d _ H => E cls d H) := takes_of rfl rfl rfl rfl
  have hp : PassesOwn (model P w) (cxOf (L2.CX P w) P w K mg base ["picture", "other", "x", "y", "mode", "share"] "laid" (defScope (topS 21)) f (.ref c) A outer s H E).A (cxOf (L2.CX P w) P w K mg base ["picture", "other", "x", "y", "mode", "share"] "laid" (defScope (topS 21)) f (.ref c) A outer s H E).env (cxOf (L2.CX P w) P w K mg base ["picture", "other", "x", "y", "mode", "share"] "laid" (defScope (topS 21)) f (.ref c) A outer s H E).xe := passes_of rfl
  exact ⟨_, (ms_cons (ms_expr (r_of (m_cal (h_must_be_mode.mono (by omega)) rfl hr tk (ma_cons (m_var 4) ma_nil) (cnt_cons cnt_nil))))
    (ms_one (ms_ret (r_of (m_calL (kk := 1) (T := lamsK.tx 1) (js := [4, 5]) (h_put_over.mono (by omega)) rfl hr (mal_cons (m_var 0) (mal_cons (m_var 1) (mal_cons (m_var 2) (mal_cons (m_var 3) (mal_one (mkr_by (x := "laid") hct h_tbs h.nd rfl rfl (by kernel_rfl) (by kernel_rfl) (by kernel_rfl) (by kernel_rfl) (by kernel_rfl) (by kernel_rfl) rfl (by kernel_rfl))))))) (cnt_c4 cnt_nil) (fun _ => rfl) (by kernel_rfl) (nfr_by (by kernel_rfl)) (caps_by (by kernel_rfl) (by kernel_rfl) (by kernel_rfl))))))), fun ds hl => match ds, hl with | [_, _, _, _, _, _], _ => by kernel_rfl⟩
theorem c_laid (h : Hd K mg) (h_tbs : TBs K mg base) (h_must_be_mode : Cal P w K mg base 1 "must_be_mode" ["mode"] m_must_be_mode) (h_put_over : Cal P w K mg base 13 "put_over" ["picture", "other", "x", "y", "told"] (m_put_over lamsK)) : CalK P w K mg base 14 "laid" (topS 21) ["picture", "other", "x", "y", "mode", "share"] [("mode", .str "plain"), ("share", .int 255)] (m_laid lamsK) := calMK_of h.d_laid sc_laid rfl (body_laid h h_tbs h_must_be_mode h_put_over)
theorem body_cell_at (h : Hd K mg) (h_is_in : Cal P w K mg base 1 "is_in" ["picture", "x", "y"] m_is_in) : Bdy P w K mg base ["picture", "x", "y"] 3 "cell_at" (topS 18) 1 m_cell_at := by
  intro f cdv A outer s H E hr
  have hN := sc_cell_at.nd
  have hu := hr.units
  have hc : (cxOf (L2.CX P w) P w K mg base ["picture", "x", "y"] "cell_at" (defScope (topS 18)) f cdv A outer s H E).calm = true := rfl
  have tk : Takes (cxOf (L2.CX P w) P w K mg base ["picture", "x", "y"] "cell_at" (defScope (topS 18)) f cdv A outer s H E) (fun cls d _ H => E cls d H) := takes_of rfl rfl rfl rfl
  have hp : PassesOwn (model P w) (cxOf (L2.CX P w) P w K mg base ["picture", "x", "y"] "cell_at" (defScope (topS 18)) f cdv A outer s H E).A (cxOf (L2.CX P w) P w K mg base ["picture", "x", "y"] "cell_at" (defScope (topS 18)) f cdv A outer s H E).env (cxOf (L2.CX P w) P w K mg base ["picture", "x", "y"] "cell_at" (defScope (topS 18)) f cdv A outer s H E).xe := passes_of rfl
  exact ⟨_, (ms_cons (ms_if (mt_not (mt_truth (r_of (m_cal (h_is_in.mono (by omega)) rfl hr tk (ma_cons (m_var 0) (ma_cons (m_var 1) (ma_cons (m_var 2) ma_nil))) (cnt_cons (cnt_cons (cnt_cons cnt_nil))))))) (ms_one (ms_raiseX h.x_NoCell tk)) ms_nil)
    (ms_one (ms_ret (r_of (m_ix (r_of (m_ix (r_of (m_var 0)) (r_of m_int))) (r_of (m_bin op_addM so_add ot_add (r_of (m_bin op_mulM so_mul ot_mul (r_of (m_var 2)) (r_of (m_ix (r_of (m_var 0)) (r_of m_int))))) (r_of (m_var 1))))))))), fun ds hl => match ds, hl with | [_, _, _], _ => by kernel_rfl⟩
theorem c_cell_at (h : Hd K mg) (h_is_in : Cal P w K mg base 1 "is_in" ["picture", "x", "y"] m_is_in) : Cal P w K mg base 2 "cell_at" ["picture", "x", "y"] m_cell_at := cal_of h.d_cell_at sc_cell_at rfl (body_cell_at h h_is_in)
theorem body_law (h : Hd K mg) (h__law_draw : Cal P w K mg base 1 "_law_draw" ["_law_script", "_law_town", "_law_many"] m__law_draw) (h__law_drawn_colour : Cal P w K mg base 3 "_law_drawn_colour" ["_law_script", "_law_town"] m__law_drawn_colour) (h__law_drawn_picture : Cal P w K mg base 4 "_law_drawn_picture" ["_law_script", "_law_town", "_law_width", "_law_height", "_law_many"] m__law_drawn_picture) (h_plain_one : Cal P w K mg base 1 "plain_one" ["width", "height", "colour"] m_plain_one) (h_placed : Cal P w K mg base 14 "placed" ["picture", "other", "x", "y"] (m_placed lamsK)) (h_laid : CalK P w K mg base 14 "laid" (topS 21) ["picture", "other", "x", "y", "mode", "share"] [("mode", .str "plain"), ("share", .int 255)] (m_laid lamsK)) (h_cell_at : Cal P w K mg base 2 "cell_at" ["picture", "x", "y"] m_cell_at) (h_laid_over : Cal P w K mg base 2 "laid_over" ["top", "bottom"] m_laid_over) : Bdy P w K mg base ["_law_script", "_law_town", "_law_k", "_law_width", "_law_height", "_law_picture", "_law_colour", "_law_across", "_law_down", "_law_one", "_law_new", "_law_there", "_law_spot", "_law_here", "_law_old", "_law_hot"] 1 "law" (topS 28) 14 (m_law lamsK) := by
  intro f cdv A outer s H E hr
  have hN := sc_law.nd
  have hu := hr.units
  have hc : (cxOf (L2.CX P w) P w K mg base ["_law_script", "_law_town", "_law_k", "_law_width", "_law_height", "_law_picture", "_law_colour", "_law_across", "_law_down", "_law_one", "_law_new", "_law_there", "_law_spot", "_law_here", "_law_old", "_law_hot"] "law" (defScope (topS 28)) f cdv A outer s H E).calm = true := rfl
  have tk : Takes (cxOf (L2.CX P w) P w K mg base ["_law_script", "_law_town", "_law_k", "_law_width", "_law_height", "_law_picture", "_law_colour", "_law_across", "_law_down", "_law_one", "_law_new", "_law_there", "_law_spot", "_law_here", "_law_old", "_law_hot"] "law" (defScope (topS 28)) f cdv A outer s H E) (fun cls d _ H => E cls d H) := takes_of rfl rfl rfl rfl
  have hp : PassesOwn (model P w) (cxOf (L2.CX P w) P w K mg base ["_law_script", "_law_town", "_law_k", "_law_width", "_law_height", "_law_picture", "_law_colour", "_law_across", "_law_down", "_law_one", "_law_new", "_law_there", "_law_spot", "_law_here", "_law_old", "_law_hot"] "law" (defScope (topS 28)) f cdv A outer s H E).A (cxOf (L2.CX P w) P w K mg base ["_law_script", "_law_town", "_law_k", "_law_width", "_law_height", "_law_picture", "_law_colour", "_law_across", "_law_down", "_law_one", "_law_new", "_law_there", "_law_spot", "_law_here", "_law_old", "_law_hot"] "law" (defScope (topS 28)) f cdv A outer s H E).env (cxOf (L2.CX P w) P w K mg base ["_law_script", "_law_town", "_law_k", "_law_width", "_law_height", "_law_picture", "_law_colour", "_law_across", "_law_down", "_law_one", "_law_new", "_law_there", "_law_spot", "_law_here", "_law_old", "_law_hot"] "law" (defScope (topS 28)) f cdv A outer s H E).xe := passes_of rfl
  exact ⟨_, (ms_cons (ms_town 1 hN)
    (ms_cons (ms_for [2, 3, 4, 5, 6, 7, 8, 9, 10, 11, 12, 13, 14, 15] (fun (e : D × D) (st : Unit) => [.va e.1, .va e.2, .no, .no, .no, .no, .no, .no, .no, .no, .no, .no, .no, .no, .no, .no]) (fun sl => match sl with | [.va p0, .va p1, .no, .no, .no, .no, .no, .no, .no, .no, .no, .no, .no, .no, .no, .no] => some ((p0, p1), ()) | _ => none) (fun e => l0_law lamsK e.1 e.2) hp (mi_range1 h.n_range (ma_cons m_int ma_nil) (cnt_cons cnt_nil)) (mgn 2 hN) (ms_cons (ms_par2 hN (i := 3) (j := 4) rfl rfl (by decide) rfl rfl (mh_va (m_bin op_addM so_add ot_add (r_of m_int) (r_of (m_cal (h__law_draw.mono (by omega)) rfl hr tk (ma_cons (m_var 0) (ma_cons (m_var 1) (ma_cons m_int ma_nil))) (cnt_cons (cnt_cons (cnt_cons cnt_nil)))))) (mh_va (m_bin op_addM so_add ot_add (r_of m_int) (r_of (m_cal (h__law_draw.mono (by omega)) rfl hr tk (ma_cons (m_var 0) (ma_cons (m_var 1) (ma_cons m_int ma_nil))) (cnt_cons (cnt_cons (cnt_cons cnt_nil)))))) mh_nil)) (cnh_va (cnh_va cnh_nil)))
    (ms_cons (ms_par2 hN (i := 5) (j := 6) rfl rfl (by decide) rfl rfl (mh_va (m_cal (h__law_drawn_picture.mono (by omega)) rfl hr tk (ma_cons (m_var 0) (ma_cons (m_var 1) (ma_cons (m_var 3) (ma_cons (m_var 4) (ma_cons m_int ma_nil))))) (cnt_c4 (cnt_cons cnt_nil))) (mh_va (m_cal (h__law_drawn_colour.mono (by omega)) rfl hr tk (ma_cons (m_var 0) (ma_cons (m_var 1) ma_nil)) (cnt_cons (cnt_cons cnt_nil))) mh_nil)) (cnh_va (cnh_va cnh_nil)))
    (ms_cons (ms_par2 hN (i := 7) (j := 8) rfl rfl (by decide) rfl rfl (mh_va (m_cal (h__law_draw.mono (by omega)) rfl hr tk (ma_cons (m_var 0) (ma_cons (m_var 1) (ma_cons (m_var 3) ma_nil))) (cnt_cons (cnt_cons (cnt_cons cnt_nil)))) (mh_va (m_cal (h__law_draw.mono (by omega)) rfl hr tk (ma_cons (m_var 0) (ma_cons (m_var 1) (ma_cons (m_var 4) ma_nil))) (cnt_cons (cnt_cons (cnt_cons cnt_nil)))) mh_nil)) (cnh_va (cnh_va cnh_nil)))
    (ms_cons (msv 9 hN (m_cal (h_plain_one.mono (by omega)) rfl hr tk (ma_cons m_int (ma_cons m_int (ma_cons (m_var 6) ma_nil))) (cnt_cons (cnt_cons (cnt_cons cnt_nil)))))
    (ms_cons (ms_par2 hN (i := 10) (j := 11) rfl rfl (by decide) rfl rfl (mh_va (m_calK (ks := []) (ms := [("mode", .str "plain"), ("share", .int 255)]) (mds := [(.str "plain" : D), (.int 255 : D)]) true (h_laid.mono (by omega)) hr tk (ma_cons (m_var 5) (ma_cons (m_var 9) (ma_cons (m_var 7) (ma_cons (m_var 8) ma_nil)))) (cnt_c4 cnt_nil) mk_nil cnt_nil (List.cons_ne_nil _ _) (by decide +kernel) (fun _ _ _ => (.cons (.str _) (.cons (.int _) .nil))) rfl (fun D doc pm an cdv ct us mv ws h1 h2 h3 => match us, mv, ws, h1, h2, h3 with | [_, _, _, _], [_, _], [], _, _, _ => ⟨_, _, _, _, _, _, rfl, rfl, _, _, _, _, _, _, rfl, rfl, rfl⟩)) (mh_va (m_cal (h_placed.mono (by omega)) rfl hr tk (ma_cons (m_var 5) (ma_cons (m_var 9) (ma_cons (m_var 7) (ma_cons (m_var 8) ma_nil)))) (cnt_c4 cnt_nil)) mh_nil)) (cnh_va (cnh_va cnh_nil)))
    (ms_cons (ms_for [2, 4, 12, 13, 14, 15] (fun (e : D × D × D × D × D × D × D × D × D × D) (st : Unit) => [.va e.1, .va e.2.1, .no, .va e.2.2.1, .no, .va e.2.2.2.1, .va e.2.2.2.2.1, .va e.2.2.2.2.2.1, .va e.2.2.2.2.2.2.1, .va e.2.2.2.2.2.2.2.1, .va e.2.2.2.2.2.2.2.2.1, .va e.2.2.2.2.2.2.2.2.2, .no, .no, .no, .no]) (fun sl => match sl with | [.va p0, .va p1, .no, .va p3, .no, .va p5, .va p6, .va p7, .va p8, .va p9, .va p10, .va p11, .no, .no, .no, .no] => some ((p0, p1, p3, p5, p6, p7, p8, p9, p10, p11), ()) | _ => none) (fun e => l1_law e.1 e.2.1 e.2.2.1 e.2.2.2.1 e.2.2.2.2.1 e.2.2.2.2.2.1 e.2.2.2.2.2.2.1 e.2.2.2.2.2.2.2.1 e.2.2.2.2.2.2.2.2.1 e.2.2.2.2.2.2.2.2.2) hp (mi_range1 h.n_range (ma_cons (m_bin op_mulM so_mul ot_mul (r_of (m_var 3)) (r_of (m_var 4))) ma_nil) (cnt_cons cnt_nil)) (mgn 12 hN) (ms_cons (msv 13 hN (m_tup (n := 2) (ma_cons (m_bin op_mod so_mod ot_mod (r_of (m_var 12)) (r_of (m_var 3))) (ma_cons (m_bin op_fdiv so_fdiv ot_fdiv (r_of (m_var 12)) (r_of (m_var 3))) ma_nil)) (cnt_cons (cnt_cons cnt_nil))))
    (ms_cons (msv 14 hN (m_cal (h_cell_at.mono (by omega)) rfl hr tk (ma_cons (m_var 5) (ma_cons (m_ix (r_of (m_var 13)) (r_of m_int)) (ma_cons (m_ix (r_of (m_var 13)) (r_of m_int)) ma_nil))) (cnt_cons (cnt_cons (cnt_cons cnt_nil)))))
    (ms_cons (msv 15 hN (m_cmp (op_eqM hu) so_eq ot_eq (r_of (m_var 13)) (r_of (m_tup (n := 2) (ma_cons (m_var 7) (ma_cons (m_var 8) ma_nil)) (cnt_cons (cnt_cons cnt_nil))))))
    (ms_cons (ms_if (mt_cmp (op_neM hu) so_ne ot_ne (r_of (m_cal (h_cell_at.mono (by omega)) rfl hr tk (ma_cons (m_var 10) (ma_cons (m_ix (r_of (m_var 13)) (r_of m_int)) (ma_cons (m_ix (r_of (m_var 13)) (r_of m_int)) ma_nil))) (cnt_cons (cnt_cons (cnt_cons cnt_nil))))) (r_if (mt_truth (r_of (m_var 15))) (r_of (m_cal (h_laid_over.mono (by omega)) rfl hr tk (ma_cons (m_var 6) (ma_cons (m_var 14) ma_nil)) (cnt_cons (cnt_cons cnt_nil)))) (r_of (m_var 14)))) (ms_one (ms_ret (r_of m_bl))) ms_nil)
    (ms_one (ms_if (mt_cmp (op_neM hu) so_ne ot_ne (r_of (m_cal (h_cell_at.mono (by omega)) rfl hr tk (ma_cons (m_var 11) (ma_cons (m_ix (r_of (m_var 13)) (r_of m_int)) (ma_cons (m_ix (r_of (m_var 13)) (r_of m_int)) ma_nil))) (cnt_cons (cnt_cons (cnt_cons cnt_nil))))) (r_if (mt_truth (r_of (m_var 15))) (r_of (m_var 6)) (r_of (m_var 14)))) (ms_one (ms_ret (r_of m_bl))) ms_nil)))))) (by intros; kernel_rfl) (by intro sl e st h; (try dsimp only at h); split at h <;> cases h <;> rfl))
    (ms_one (ms_if (mt_w (mw_or (mt_cmp (op_neM hu) so_ne ot_ne (r_of (m_calK (ks := []) (ms := [("mode", .str "plain"), ("share", .int 255)]) (mds := [(.str "plain" : D), (.int 255 : D)]) true (h_laid.mono (by omega)) hr tk (ma_cons (m_var 5) (ma_cons (m_var 9) (ma_cons (m_var 3) (ma_cons (m_var 8) ma_nil)))) (cnt_c4 cnt_nil) mk_nil cnt_nil (List.cons_ne_nil _ _) (by decide +kernel) (fun _ _ _ => (.cons (.str _) (.cons (.int _) .nil))) rfl (fun D doc pm an cdv ct us mv ws h1 h2 h3 => match us, mv, ws, h1, h2, h3 with | [_, _, _, _], [_, _], [], _, _, _ => ⟨_, _, _, _, _, _, rfl, rfl, _, _, _, _, _, _, rfl, rfl, rfl⟩))) (r_of (m_var 5))) (mw_or1 (mt_cmp (op_neM hu) so_ne ot_ne (r_of (m_cal (h_placed.mono (by omega)) rfl hr tk (ma_cons (m_var 5) (ma_cons (m_var 9) (ma_cons (m_var 7) (ma_cons (m_neg m_int) ma_nil)))) (cnt_c4 cnt_nil))) (r_of (m_var 5)))))) (ms_one (ms_ret (r_of m_bl))) ms_nil)))))))) (by intros; kernel_rfl) (by intro sl e st h; (try dsimp only at h); split at h <;> cases h <;> rfl))
    (ms_one (ms_ret (r_of m_bl))))), fun ds hl => match ds, hl with | [_], _ => by kernel_rfl⟩
end
theorem all_ok {w : World} {K : PySem.W.Frag} {mg : Str → Option Value} {fa : Addr} (h : Hd K mg) (hfa : mg "law" = some (.ref fa)) (hm : ∀ ns : List Int, ns.length ≤ 63 → ∃ w', (m_law lamsK) [.scr ns] ⟨none, []⟩ = .ok (.bl true) w') :
    ∃ fd : FuncData, (∀ (s : Shared) (u : Value), BindsTo s fd ⟨[u], []⟩ [("_law_script", u)]) ∧ ∀ base : Heap, K.In base → base.Ns mainGlobals mg → TBs K mg base → FnOk PySem.Challenge.pw_paintyard_k48_one_cell_laid w K mg base (L2.CX PySem.Challenge.pw_paintyard_k48_one_cell_laid w) 15 fa fd ["_law_script"] (spLaw K) := by
  refine law_of (k := 14) hfa h.d_law sc_law hm fun base _ _ h_tbs => ?_
  have h__law_draw := c__law_draw (P := PySem.Challenge.pw_paintyard_k48_one_cell_laid) (w := w) (base := base) h 
  have h__law_pick := c__law_pick (P := PySem.Challenge.pw_paintyard_k48_one_cell_laid) (w := w) (base := base) h h__law_draw
  have h__law_drawn_colour := c__law_drawn_colour (P := PySem.Challenge.pw_paintyard_k48_one_cell_laid) (w := w) (base := base) h h__law_draw h__law_pick
  have h__law_drawn_picture := c__law_drawn_picture (P := PySem.Challenge.pw_paintyard_k48_one_cell_laid) (w := w) (base := base) h h__law_drawn_colour h__law_pick
  have h_plain_one := c_plain_one (P := PySem.Challenge.pw_paintyard_k48_one_cell_laid) (w := w) (base := base) h 
  have h_rows_of := c_rows_of (P := PySem.Challenge.pw_paintyard_k48_one_cell_laid) (w := w) (base := base) h 
  have h_is_in := c_is_in (P := PySem.Challenge.pw_paintyard_k48_one_cell_laid) (w := w) (base := base) h 
  have h_of_rows := c_of_rows (P := PySem.Challenge.pw_paintyard_k48_one_cell_laid) (w := w) (base := base) h 
  have h_must_be_mode := c_must_be_mode (P := PySem.Challenge.pw_paintyard_k48_one_cell_laid) (w := w) (base := base) h 
  have h_rounded := c_rounded (P := PySem.Challenge.pw_paintyard_k48_one_cell_laid) (w := w) (base := base) h 
  have h_told_by := c_told_by (P := PySem.Challenge.pw_paintyard_k48_one_cell_laid) (w := w) (base := base) h h_rounded
  have h_laid_over := c_laid_over (P := PySem.Challenge.pw_paintyard_k48_one_cell_laid) (w := w) (base := base) h h_rounded
  have h_blended := c_blended (P := PySem.Challenge.pw_paintyard_k48_one_cell_laid) (w := w) (base := base) h h_must_be_mode h_told_by h_rounded h_laid_over
  have h_faded := c_faded (P := PySem.Challenge.pw_paintyard_k48_one_cell_laid) (w := w) (base := base) h h_rounded
  have h_cell_at := c_cell_at (P := PySem.Challenge.pw_paintyard_k48_one_cell_laid) (w := w) (base := base) h h_is_in
  have hl_0 := lam_0 (P := PySem.Challenge.pw_paintyard_k48_one_cell_laid) (w := w) (base := base) h 
  have hl_1 := lam_1 (P := PySem.Challenge.pw_paintyard_k48_one_cell_laid) (w := w) (base := base) h h_faded h_blended
  have h_lam : ∀ j, LamOk PySem.Challenge.pw_paintyard_k48_one_cell_laid w K mg base 12 (lamsK.tx j) (lamsK.sm j) := fun j => match j with
    | 0 => hl_0.mono (by omega)
    | 1 => hl_1.mono (by omega)
    | n + 2 => lamOk_bad
  have h_put_over := c_put_over (P := PySem.Challenge.pw_paintyard_k48_one_cell_laid) (w := w) (base := base) h h_lam h_rows_of h_is_in h_of_rows
  have h_placed := c_placed (P := PySem.Challenge.pw_paintyard_k48_one_cell_laid) (w := w) (base := base) h h_tbs h_put_over
  have h_laid := c_laid (P := PySem.Challenge.pw_paintyard_k48_one_cell_laid) (w := w) (base := base) h h_tbs h_must_be_mode h_put_over
  exact body_law h h__law_draw h__law_drawn_colour h__law_drawn_picture h_plain_one h_placed h_laid h_cell_at h_laid_over
end Lw

namespace Lw
open PySem Pm
section
variable {tx : Nat → LT} (h0 : (tx 0).ps.length = 2) (h1 : (tx 1).ps.length = 2) {w h w2 h2 : Nat} {c c2 : Nat → Nat → C4} {X Y : Int} (hw : 1 ≤ w ∧ w ≤ 99) (hh : 1 ≤ h ∧ h ≤ 99) (hw2 : w2 ≤ 99) (hh2 : h2 ≤ 99) (hc : okG w h c) (hc2 : okG w2 h2 c2)
include h0 hw hh hw2 hh2 hc hc2 in
theorem placed_eq : m_placed ⟨tx, smK⟩ [picC w h c, picC w2 h2 c2, .int X, .int Y] = M.pure (picC w h (putC w2 h2 X Y (fun p _ => p) c c2)) := by
  show p_placed _ _ _ _ _ = _
  unfold p_placed
  exact call_put (tells_top h0 (fun p q => rfl)) ⟨hw.1, by omega⟩ ⟨hh.1, by omega⟩ (by omega) (by omega) hc hc2
include h1 hw hh hw2 hh2 hc hc2 in
theorem laid_eq {m : Str} (hm : m ∈ mW) {s : Int} (hs : byt s) : m_laid ⟨tx, smK⟩ [picC w h c, picC w2 h2 c2, .int X, .int Y, .str m, .int s] = M.pure (picC w h (putC w2 h2 X Y (layF m s) c c2)) := by
  show p_laid _ _ _ _ _ _ _ = _
  unfold p_laid
  rw [call1 m_must_be_mode, must_ok hm, Pm.pure_bind]
  exact call_put (tells_lay h1 hm hs (fun p q => rfl)) ⟨hw.1, by omega⟩ ⟨hh.1, by omega⟩ (by omega) (by omega) hc hc2
end
theorem eq_pair (a b c d : Int) : eqD (.tup [.int a, .int b]) (.tup [.int c, .int d]) = some (.bl (decide (a = c ∧ b = d))) := by
  rw [o_eqT (by rw [okd_tup]; simp [okd_int]) (by rw [okd_tup]; simp [okd_int])]
  by_cases h1 : a = c <;> by_cases h2 : b = d <;> simp [deq, deqs, h1, h2]
theorem tup2 (a b : D) : fTup (fCons (M.pure a) (fCons (M.pure b) fNil)) = M.pure (.tup [a, b]) := rfl
theorem spot_ok {w h : Nat} {c : Nat → Nat → C4} {p : C4} {A B : Nat} (sc tw one : D) (hw : 1 ≤ w ∧ w ≤ 99) (hh : 1 ≤ h ∧ h ≤ 99) (hc : ∀ x y, okc (c x y)) (hp : okc p) (hA : A < w) (hB : B < h) {n : Nat} (hn : n < w * h) (k : Unit → M D) :
    l1_law sc tw (.int w) (picC w h c) (col p) (.int A) (.int B) one (picC w h (putC 1 1 A B (layF "plain" 255) c fun _ _ => p)) (picC w h (putC 1 1 A B (fun p _ => p) c fun _ _ => p)) (.int n) () k = k () := by
  have hx : n % w < w := Nat.mod_lt _ (by omega)
  have hy : n / w < h := Nat.div_lt_of_lt_mul hn
  have ex : (n : Int) % (w : Int) = ((n % w : Nat) : Int) := by simp
  have ey : (n : Int) / (w : Int) = ((n / w : Nat) : Int) := by simp
  generalize n % w = x at hx ex
  generalize n / w = y at hy ey
  unfold l1_law
  rw [f_bin, f_bin, o_mod (by omega), o_div (by omega) (by omega), ex, ey, opt_some, opt_some, tup2, Pm.pure_bind, f_bin, f_bin, Pm.ix_tup, Pm.ix_tup, at0, at1, opt_some, opt_some]
  have ca : ∀ d : Nat → Nat → D, m_cell_at [picF w h d, .int x, .int y] = M.pure (d x y) := fun d => by
    rw [cell_atF (by omega) d (by omega) (by omega)]; rfl
  rw [call3 m_cell_at, call3 m_cell_at, call3 m_cell_at, ca, ca, ca, Pm.pure_bind, tup2, f_bin, eq_pair, opt_some, Pm.pure_bind, f_tru, t_bl, opt_some, f_if, f_if, call2 m_laid_over, over_eq hp (hc x y)]
  unfold putC
  by_cases q : (x : Int) = A ∧ (y : Int) = B
  · rw [if_pos (decide_eq_true q), if_pos (decide_eq_true q), if_pos (by omega), if_pos (by omega), lay_plain hp (hc x y), f_bin, f_bin, o_ne_self (okd_col 39 _), o_ne_self (okd_col 39 _)]
    rfl
  · have hq : ¬ ((A : Int) ≤ x ∧ (x : Int) < A + (1 : Nat) ∧ (B : Int) ≤ y ∧ (y : Int) < B + (1 : Nat)) := by omega
    rw [decide_eq_false q, if_neg hq, if_neg hq, if_neg Bool.false_ne_true, if_neg Bool.false_ne_true, f_bin, o_ne_self (okd_col 39 _)]
    rfl
theorem step {tx : Nat → LT} (h0 : (tx 0).ps.length = 2) (h1 : (tx 1).ps.length = 2) (ns : List Int) (hn : ns.length ≤ 63) (x : D) (i : Nat) (k : Unit → M D) (hk : ∀ st, True → Dr i (k st) (· = .bl true)) : Dr (200 + i) (l0_law ⟨tx, smK⟩ (.scr ns) .town x () k) (· = .bl true) := by
  unfold l0_law
  simp only [in_int, ng_int, mx_nil, mx_cons, o_ne_self, o_eq_self, ls_lst, Pm.pure_bind, bad_bind, raise_bind, opt_some, opt_none, Pm.bind_assoc, Pm.bind_pure, f_bin, f_nil, f_cons, f_tup, f_lst, f_call, f_cb, f_if, f_of, f_ofv, f_tru, f_andB, f_orB, f_notB, f_and, f_or, f_not, f_neg, f_chain, f_sl, f_ono, f_oso, f_items, f_zip, f_enum, f_rng, f_lc, f_lcf, f_lc2, f_in, f_lz, f_app, f_ext, f_seti, f_isi, f_u2, f_u3, f_u4, i_tup, i_lst, z_tup, z_lst, zl_nil, zl_cons, en_tup, en_lst, en_nil, en_cons, x_nil, x_cons, x_map, x_pure, xf_nil, xf_cons, xc_nil, xc_cons, noEx_pure, o_add, o_sub, o_lt, o_le, o_gt, o_ge, o_eq, o_ne, o_mulL, o_mulR, o_div, o_mod, o_addT, o_addL, o_iadd, Pm.ix_tup, ix_lst, Pm.sl_tup, sl_lst, b_len_t, b_len_l, b_abs, b_int_i, b_int_b, b_sum, b_all, b_any, b_tup_l, b_tup_t, b_lst_l, b_lst_t, b_max2, b_max3, b_min2, b_min3, t_bl, t_int, t_tup, t_lst, t_non, a_app, a_ext, bl_bl, decide_true, decide_false, Bool.not_true, Bool.not_false, if_true, if_false, Bool.false_eq_true, for_nil, for_cons, ls_cons, ls_nil, at0, at1, at2, at3, at4, List.cons_append, List.nil_append, List.length_cons, List.length_nil, List.length_map, n_ot, isi_int', isi_bool', isi_tup', isi_str', dn_non, dn_int, dn_tup, dn_str, dn_bl, dnn_non, dnn_int, dnn_tup, dnn_str, dnn_bl, decide_eq_true_eq, fBin, fCons, fTup, fLst, fCall, fCB, fIf, fOf, fTru, fAndB, fOrB, fNotB, fAnd, fOr, fNot, fNeg, fChain, fSl, fOSo, fItems, fZip, fEnum, fRng, fLC, fLCf, fLC2, fIn, fLz, fApp, fExt, fSetI, fIsi]
  refine Dr.then 2 (dr_draw hn (by decide)) (by omega) fun d ⟨r1, e, a1, a2⟩ => ?_
  subst e
  rw [o_add, opt_some, Pm.pure_bind]
  refine Dr.then 2 (dr_draw hn (by decide)) (by omega) fun d ⟨r2, e, b1, b2⟩ => ?_
  subst e
  rw [o_add, opt_some, Pm.pure_bind]
  obtain ⟨w, hw⟩ : ∃ w : Nat, 1 + r1 = (w : Int) := ⟨(1 + r1).toNat, by omega⟩
  obtain ⟨h, hh⟩ : ∃ h : Nat, 1 + r2 = (h : Int) := ⟨(1 + r2).toNat, by omega⟩
  rw [hw, hh]
  have w1 : 1 ≤ w ∧ w ≤ 5 := by omega
  have hh1 : 1 ≤ h ∧ h ≤ 5 := by omega
  have hwh : w * h ≤ 25 := Nat.mul_le_mul w1.2 hh1.2
  refine Dr.then (14 * 4 + 50) ((dr_pic hn (by omega) (by omega) (by omega) (by decide)).more (by show 14 * 4 + 2 * (w * h) ≤ _; omega)) (by omega) fun d ⟨c, e, hc⟩ => ?_
  subst e
  refine Dr.then 14 (dr_colour hn) (by omega) fun d ⟨p, e, hp⟩ => ?_
  subst e
  refine Dr.then 2 (dr_draw hn (by omega)) (by omega) fun d ⟨A, e, c1, c2⟩ => ?_
  subst e
  refine Dr.then 2 (dr_draw hn (by omega)) (by omega) fun d ⟨B, e, d1, d2⟩ => ?_
  subst e
  obtain ⟨A, rfl⟩ := Int.eq_ofNat_of_zero_le c1
  obtain ⟨B, rfl⟩ := Int.eq_ofNat_of_zero_le d1
  have hcg : okG w h c := fun x y _ _ => hc x y
  have hpg : okG 1 1 (fun _ _ => p) := fun _ _ _ _ => hp
  have P1 : m_plain_one [.int 1, .int 1, col p] = M.pure (picC 1 1 fun _ _ => p) := plainF (w := 1) (h := 1) (by decide) (by decide) (by decide) (col p)
  rw [P1, Pm.pure_bind, kw42', laid_eq h1 ⟨w1.1, by omega⟩ ⟨hh1.1, by omega⟩ (by decide) (by decide) hcg hpg (m := "plain") (by simp [mW]) (s := 255) (by unfold byt; omega), Pm.pure_bind, placed_eq h0 ⟨w1.1, by omega⟩ ⟨hh1.1, by omega⟩ (by decide) (by decide) hcg hpg, Pm.pure_bind]
  rw [o_mulR (by omega) (by omega), opt_some, Pm.pure_bind, show (w : Int) * (h : Int) = ((w * h : Nat) : Int) by simp, rng_A (by omega) (by omega), opt_some, Pm.pure_bind, Int.toNat_natCast, for_skip _ _ (fun x hx k' => by
    obtain ⟨n, hn, rfl⟩ := List.mem_map.mp hx
    exact spot_ok (.scr ns) .town _ ⟨w1.1, by omega⟩ ⟨hh1.1, by omega⟩ hc hp (by omega) (by omega) (List.mem_range.mp hn) k'), kw42', laid_eq h1 ⟨w1.1, by omega⟩ ⟨hh1.1, by omega⟩ (by decide) (by decide) hcg hpg (m := "plain") (by simp [mW]) (s := 255) (by unfold byt; omega), Pm.pure_bind, placed_eq h0 ⟨w1.1, by omega⟩ ⟨hh1.1, by omega⟩ (by decide) (by decide) hcg hpg, Pm.pure_bind]
  have n1 : neD (picC w h (putC 1 1 w B (layF "plain" 255) c fun _ _ => p)) (picC w h c) = some (.bl false) := ne_pic fun x y hx hy => by unfold putC; rw [if_neg (by omega)]
  have n2 : neD (picC w h (putC 1 1 A (-1) (fun p _ => p) c fun _ _ => p)) (picC w h c) = some (.bl false) := ne_pic fun x y hx hy => by unfold putC; rw [if_neg (by omega)]
  rw [n1, n2]
  exact (hk () trivial).more (by omega)
theorem law_true (tx : Nat → LT) (h0 : (tx 0).ps.length = 2) (h1 : (tx 1).ps.length = 2) : ∀ ns : List Int, ns.length ≤ 63 → ∃ w', m_law ⟨tx, smK⟩ [.scr ns] ⟨none, []⟩ = .ok (.bl true) w' := by
  intro ns hn
  have h : Dr 100000 ((M.bind (fRng (fCons (M.pure (.int 6)) fNil)) fun xs2_ => fFor (l0_law ⟨tx, smK⟩ (.scr ns) .town) xs2_ () fun _ => (M.pure (.bl true)))) (· = .bl true) := by
    simp only [in_int, ng_int, mx_nil, mx_cons, o_ne_self, o_eq_self, ls_lst, Pm.pure_bind, bad_bind, raise_bind, opt_some, opt_none, Pm.bind_assoc, Pm.bind_pure, f_bin, f_nil, f_cons, f_tup, f_lst, f_call, f_cb, f_if, f_of, f_ofv, f_tru, f_andB, f_orB, f_notB, f_and, f_or, f_not, f_neg, f_chain, f_sl, f_ono, f_oso, f_items, f_zip, f_enum, f_rng, f_lc, f_lcf, f_lc2, f_in, f_lz, f_app, f_ext, f_seti, f_isi, f_u2, f_u3, f_u4, i_tup, i_lst, z_tup, z_lst, zl_nil, zl_cons, en_tup, en_lst, en_nil, en_cons, x_nil, x_cons, x_map, x_pure, xf_nil, xf_cons, xc_nil, xc_cons, noEx_pure, o_add, o_sub, o_lt, o_le, o_gt, o_ge, o_eq, o_ne, o_mulL, o_mulR, o_div, o_mod, o_addT, o_addL, o_iadd, Pm.ix_tup, ix_lst, Pm.sl_tup, sl_lst, b_len_t, b_len_l, b_abs, b_int_i, b_int_b, b_sum, b_all, b_any, b_tup_l, b_tup_t, b_lst_l, b_lst_t, b_max2, b_max3, b_min2, b_min3, t_bl, t_int, t_tup, t_lst, t_non, a_app, a_ext, bl_bl, decide_true, decide_false, Bool.not_true, Bool.not_false, if_true, if_false, Bool.false_eq_true, for_nil, for_cons, ls_cons, ls_nil, at0, at1, at2, at3, at4, List.cons_append, List.nil_append, List.length_cons, List.length_nil, List.length_map, n_ot, isi_int', isi_bool', isi_tup', isi_str', dn_non, dn_int, dn_tup, dn_str, dn_bl, dnn_non, dnn_int, dnn_tup, dnn_str, dnn_bl, decide_eq_true_eq, fBin, fCons, fTup, fLst, fCall, fCB, fIf, fOf, fTru, fAndB, fOrB, fNotB, fAnd, fOr, fNot, fNeg, fChain, fSl, fOSo, fItems, fZip, fEnum, fRng, fLC, fLCf, fLC2, fIn, fLz, fApp, fExt, fSetI, fIsi, rng_A (j := 6) (by decide) (by decide)]
    exact Dr.more (dr_for (fun _ => True) 200 0 _ _ (fun x _ st i k _ hk => step h0 h1 ns hn x i k hk) _ trivial fun _ _ => Dr.pure rfl) (by simp)
  obtain ⟨a, t', n, h1, rfl, _⟩ := h [] [] (by simp)
  exact ⟨_, h1⟩
end Lw
namespace Lw
open PySem PySem.Spec PyProof.Rows L2 Pm

theorem hd_mk {K : PySem.W.Frag} {h : Heap} {mg : Str → Option Value} (X : K.In h) (G : h.Ns mainGlobals mg) {f0 : Addr} {od0 an0 : Option Addr} {sl0 : Array (Option Value)} {oc0 kV0 dc0 pm0 cd0 ct0 : Value} {f1 : Addr} {od1 an1 : Option Addr} {sl1 : Array (Option Value)} {oc1 kV1 dc1 pm1 cd1 ct1 : Value} {f2 : Addr} {od2 an2 : Option Addr} {sl2 : Array (Option Value)} {oc2 kV2 dc2 pm2 cd2 ct2 : Value} {f3 : Addr} {od3 an3 : Option Addr} {sl3 : Array (Option Value)} {oc3 kV3 dc3 pm3 cd3 ct3 : Value} {f4 : Addr} {od4 an4 : Option Addr} {sl4 : Array (Option Value)} {oc4 kV4 dc4 pm4 cd4 ct4 : Value} {f5 : Addr} {od5 an5 : Option Addr} {sl5 : Array (Option Value)} {oc5 kV5 dc5 pm5 cd5 ct5 : Value} {f6 : Addr} {od6 an6 : Option Addr} {sl6 : Array (Option Value)} {oc6 kV6 dc6 pm6 cd6 ct6 : Value} {f7 : Addr} {od7 an7 : Option Addr} {sl7 : Array (Option Value)} {oc7 kV7 dc7 pm7 cd7 ct7 : Value} {f8 : Addr} {od8 an8 : Option Addr} {sl8 : Array (Option Value)} {oc8 kV8 dc8 pm8 cd8 ct8 : Value} {f9 : Addr} {od9 an9 : Option Addr} {sl9 : Array (Option Value)} {oc9 kV9 dc9 pm9 ct9 : Value} {mc9 mT9 : Addr} {mo9 : Value} {md9 : Option Addr} {mv9 : Array Value} {ms9 : Array (Option Value)} {f10 : Addr} {od10 an10 : Option Addr} {sl10 : Array (Option Value)} {oc10 kV10 dc10 pm10 cd10 ct10 : Value} {f11 : Addr} {od11 an11 : Option Addr} {sl11 : Array (Option Value)} {oc11 kV11 dc11 pm11 cd11 ct11 : Value} {f12 : Addr} {od12 an12 : Option Addr} {sl12 : Array (Option Value)} {oc12 kV12 dc12 pm12 cd12 ct12 : Value} {f13 : Addr} {od13 an13 : Option Addr} {sl13 : Array (Option Value)} {oc13 kV13 dc13 pm13 cd13 ct13 : Value} {f14 : Addr} {od14 an14 : Option Addr} {sl14 : Array (Option Value)} {oc14 kV14 dc14 pm14 cd14 ct14 : Value} {f15 : Addr} {od15 an15 : Option Addr} {sl15 : Array (Option Value)} {oc15 kV15 dc15 pm15 cd15 ct15 : Value} {f16 : Addr} {od16 an16 : Option Addr} {sl16 : Array (Option Value)} {oc16 dc16 pm16 ct16 : Value} {kD16 : Addr} {kt16_0 kt16_1 : Tok} {mc16 mT16 : Addr} {mo16 : Value} {md16 : Option Addr} {mv16 : Array Value} {ms16 : Array (Option Value)} {f17 : Addr} {od17 an17 : Option Addr} {sl17 : Array (Option Value)} {oc17 kV17 dc17 pm17 cd17 ct17 : Value} {f18 : Addr} {od18 an18 : Option Addr} {sl18 : Array (Option Value)} {oc18 kV18 dc18 pm18 cd18 ct18 : Value} {cf0 cn0 : Nat} {co0 : Option Addr} {cs0 : Array (Option Value)} {ct0_0 ct0_1 ct0_2 ct0_3 ct0_4 ct0_5 ct0_6 ct0_7 : Tok} {cf1 cn1 : Nat} {co1 : Option Addr} {cs1 : Array (Option Value)} {ct1_0 ct1_1 ct1_2 ct1_3 : Tok} {xc0 : Addr} {xc1 : Addr}
    (a0 : PySem.W.nsIn K mainGlobals "_law_draw" = some (some (.ref f0))) (l0 : K.lookup f0 = some ⟨oc0, od0, .func (PySem.W.fnOf "_law_draw" "_law_draw" (defArgs (topS 24)) (defBody (topS 24)) (defScope (topS 24)) .none kV0 dc0 pm0 an0 cd0 ct0), sl0⟩) (c0 : PySem.W.codeIn K cd0 "_law_draw" = true) (k0 : PySem.W.keepIn K (.ref f0) = true)
    (a1 : PySem.W.nsIn K mainGlobals "_law_pick" = some (some (.ref f1))) (l1 : K.lookup f1 = some ⟨oc1, od1, .func (PySem.W.fnOf "_law_pick" "_law_pick" (defArgs (topS 25)) (defBody (topS 25)) (defScope (topS 25)) .none kV1 dc1 pm1 an1 cd1 ct1), sl1⟩) (c1 : PySem.W.codeIn K cd1 "_law_pick" = true) (k1 : PySem.W.keepIn K (.ref f1) = true)
    (a2 : PySem.W.nsIn K mainGlobals "_law_drawn_colour" = some (some (.ref f2))) (l2 : K.lookup f2 = some ⟨oc2, od2, .func (PySem.W.fnOf "_law_drawn_colour" "_law_drawn_colour" (defArgs (topS 26)) (defBody (topS 26)) (defScope (topS 26)) .none kV2 dc2 pm2 an2 cd2 ct2), sl2⟩) (c2 : PySem.W.codeIn K cd2 "_law_drawn_colour" = true) (k2 : PySem.W.keepIn K (.ref f2) = true)
    (a3 : PySem.W.nsIn K mainGlobals "_law_drawn_picture" = some (some (.ref f3))) (l3 : K.lookup f3 = some ⟨oc3, od3, .func (PySem.W.fnOf "_law_drawn_picture" "_law_drawn_picture" (defArgs (topS 27)) (defBody (topS 27)) (defScope (topS 27)) .none kV3 dc3 pm3 an3 cd3 ct3), sl3⟩) (c3 : PySem.W.codeIn K cd3 "_law_drawn_picture" = true) (k3 : PySem.W.keepIn K (.ref f3) = true)
    (a4 : PySem.W.nsIn K mainGlobals "plain_one" = some (some (.ref f4))) (l4 : K.lookup f4 = some ⟨oc4, od4, .func (PySem.W.fnOf "plain_one" "plain_one" (defArgs (topS 14)) (defBody (topS 14)) (defScope (topS 14)) .none kV4 dc4 pm4 an4 cd4 ct4), sl4⟩) (c4 : PySem.W.codeIn K cd4 "plain_one" = true) (k4 : PySem.W.keepIn K (.ref f4) = true)
    (a5 : PySem.W.nsIn K mainGlobals "rows_of" = some (some (.ref f5))) (l5 : K.lookup f5 = some ⟨oc5, od5, .func (PySem.W.fnOf "rows_of" "rows_of" (defArgs (topS 15)) (defBody (topS 15)) (defScope (topS 15)) .none kV5 dc5 pm5 an5 cd5 ct5), sl5⟩) (c5 : PySem.W.codeIn K cd5 "rows_of" = true) (k5 : PySem.W.keepIn K (.ref f5) = true)
    (a6 : PySem.W.nsIn K mainGlobals "is_in" = some (some (.ref f6))) (l6 : K.lookup f6 = some ⟨oc6, od6, .func (PySem.W.fnOf "is_in" "is_in" (defArgs (topS 17)) (defBody (topS 17)) (defScope (topS 17)) .none kV6 dc6 pm6 an6 cd6 ct6), sl6⟩) (c6 : PySem.W.codeIn K cd6 "is_in" = true) (k6 : PySem.W.keepIn K (.ref f6) = true)
    (a7 : PySem.W.nsIn K mainGlobals "of_rows" = some (some (.ref f7))) (l7 : K.lookup f7 = some ⟨oc7, od7, .func (PySem.W.fnOf "of_rows" "of_rows" (defArgs (topS 16)) (defBody (topS 16)) (defScope (topS 16)) .none kV7 dc7 pm7 an7 cd7 ct7), sl7⟩) (c7 : PySem.W.codeIn K cd7 "of_rows" = true) (k7 : PySem.W.keepIn K (.ref f7) = true)
    (a8 : PySem.W.nsIn K mainGlobals "put_over" = some (some (.ref f8))) (l8 : K.lookup f8 = some ⟨oc8, od8, .func (PySem.W.fnOf "put_over" "put_over" (defArgs (topS 19)) (defBody (topS 19)) (defScope (topS 19)) .none kV8 dc8 pm8 an8 cd8 ct8), sl8⟩) (c8 : PySem.W.codeIn K cd8 "put_over" = true) (k8 : PySem.W.keepIn K (.ref f8) = true)
    (a9 : PySem.W.nsIn K mainGlobals "placed" = some (some (.ref f9))) (l9 : K.lookup f9 = some ⟨oc9, od9, .func (PySem.W.fnOf "placed" "placed" (defArgs (topS 20)) (defBody (topS 20)) (defScope (topS 20)) .none kV9 dc9 pm9 an9 (.ref mc9) ct9), sl9⟩) (c9 : PySem.W.codeIn K (.ref mc9) "placed" = true) (k9 : PySem.W.keepIn K (.ref f9) = true)
    (lc9 : K.lookup mc9 = some ⟨mo9, md9, .fields mv9, ms9⟩) (lt9 : (mv9[11]? : Option Value) = some (.ref mT9))
    (a10 : PySem.W.nsIn K mainGlobals "must_be_mode" = some (some (.ref f10))) (l10 : K.lookup f10 = some ⟨oc10, od10, .func (PySem.W.fnOf "must_be_mode" "must_be_mode" (defArgs (topS 10)) (defBody (topS 10)) (defScope (topS 10)) .none kV10 dc10 pm10 an10 cd10 ct10), sl10⟩) (c10 : PySem.W.codeIn K cd10 "must_be_mode" = true) (k10 : PySem.W.keepIn K (.ref f10) = true)
    (a11 : PySem.W.nsIn K mainGlobals "rounded" = some (some (.ref f11))) (l11 : K.lookup f11 = some ⟨oc11, od11, .func (PySem.W.fnOf "rounded" "rounded" (defArgs (topS 7)) (defBody (topS 7)) (defScope (topS 7)) .none kV11 dc11 pm11 an11 cd11 ct11), sl11⟩) (c11 : PySem.W.codeIn K cd11 "rounded" = true) (k11 : PySem.W.keepIn K (.ref f11) = true)
    (a12 : PySem.W.nsIn K mainGlobals "told_by" = some (some (.ref f12))) (l12 : K.lookup f12 = some ⟨oc12, od12, .func (PySem.W.fnOf "told_by" "told_by" (defArgs (topS 9)) (defBody (topS 9)) (defScope (topS 9)) .none kV12 dc12 pm12 an12 cd12 ct12), sl12⟩) (c12 : PySem.W.codeIn K cd12 "told_by" = true) (k12 : PySem.W.keepIn K (.ref f12) = true)
    (a13 : PySem.W.nsIn K mainGlobals "laid_over" = some (some (.ref f13))) (l13 : K.lookup f13 = some ⟨oc13, od13, .func (PySem.W.fnOf "laid_over" "laid_over" (defArgs (topS 8)) (defBody (topS 8)) (defScope (topS 8)) .none kV13 dc13 pm13 an13 cd13 ct13), sl13⟩) (c13 : PySem.W.codeIn K cd13 "laid_over" = true) (k13 : PySem.W.keepIn K (.ref f13) = true)
    (a14 : PySem.W.nsIn K mainGlobals "blended" = some (some (.ref f14))) (l14 : K.lookup f14 = some ⟨oc14, od14, .func (PySem.W.fnOf "blended" "blended" (defArgs (topS 11)) (defBody (topS 11)) (defScope (topS 11)) .none kV14 dc14 pm14 an14 cd14 ct14), sl14⟩) (c14 : PySem.W.codeIn K cd14 "blended" = true) (k14 : PySem.W.keepIn K (.ref f14) = true)
    (a15 : PySem.W.nsIn K mainGlobals "faded" = some (some (.ref f15))) (l15 : K.lookup f15 = some ⟨oc15, od15, .func (PySem.W.fnOf "faded" "faded" (defArgs (topS 12)) (defBody (topS 12)) (defScope (topS 12)) .none kV15 dc15 pm15 an15 cd15 ct15), sl15⟩) (c15 : PySem.W.codeIn K cd15 "faded" = true) (k15 : PySem.W.keepIn K (.ref f15) = true)
    (a16 : PySem.W.nsIn K mainGlobals "laid" = some (some (.ref f16))) (l16 : K.lookup f16 = some ⟨oc16, od16, .func (PySem.W.fnOf "laid" "laid" (defArgs (topS 21)) (defBody (topS 21)) (defScope (topS 21)) .none (.ref kD16) dc16 pm16 an16 (.ref mc16) ct16), sl16⟩) (c16 : PySem.W.codeIn K (.ref mc16) "laid" = true) (k16 : PySem.W.keepIn K (.ref f16) = true)
    (kn16_1 : PySem.W.nsIn K kD16 "share" = some (some (.int 255 kt16_1)))
    (kn16_0 : PySem.W.nsIn K kD16 "mode" = some (some (.str "plain" kt16_0)))
    (lc16 : K.lookup mc16 = some ⟨mo16, md16, .fields mv16, ms16⟩) (lt16 : (mv16[11]? : Option Value) = some (.ref mT16))
    (a17 : PySem.W.nsIn K mainGlobals "cell_at" = some (some (.ref f17))) (l17 : K.lookup f17 = some ⟨oc17, od17, .func (PySem.W.fnOf "cell_at" "cell_at" (defArgs (topS 18)) (defBody (topS 18)) (defScope (topS 18)) .none kV17 dc17 pm17 an17 cd17 ct17), sl17⟩) (c17 : PySem.W.codeIn K cd17 "cell_at" = true) (k17 : PySem.W.keepIn K (.ref f17) = true)
    (a18 : PySem.W.nsIn K mainGlobals "law" = some (some (.ref f18))) (l18 : K.lookup f18 = some ⟨oc18, od18, .func (PySem.W.fnOf "law" "law" (defArgs (topS 28)) (defBody (topS 28)) (defScope (topS 28)) .none kV18 dc18 pm18 an18 cd18 ct18), sl18⟩) (c18 : PySem.W.codeIn K cd18 "law" = true) (k18 : PySem.W.keepIn K (.ref f18) = true)
    (nd0 : decide ((tabsK K).map (·.1)).Nodup = true)
    (ca0 : PySem.W.nsIn K mainGlobals "MODES" = some (some (.ref cf0))) (cl0 : K.lookup cf0 = some ⟨.type "tuple", co0, .seq (#[.str "plain" ct0_0, .str "times" ct0_1, .str "screen" ct0_2, .str "dark" ct0_3, .str "light" ct0_4, .str "add" ct0_5, .str "less" ct0_6, .str "apart" ct0_7] : Array Value) cn0, cs0⟩)
    (ca1 : PySem.W.nsIn K mainGlobals "CLEAR" = some (some (.ref cf1))) (cl1 : K.lookup cf1 = some ⟨.type "tuple", co1, .seq (#[.int 0 ct1_0, .int 0 ct1_1, .int 0 ct1_2, .int 0 ct1_3] : Array Value) cn1, cs1⟩)
    (xa0 : PySem.W.nsIn K mainGlobals "BadMode" = some (some (.ref xc0))) (xe0 : PySem.W.excIn K xc0 bmVE "ValueError.__new__" = true) (xk0 : PySem.W.keepIn K (.ref xc0) = true) (xs0 : PySem.W.subIn K (.ref xc0) (.type "BaseException") = some true) (xt0 : PySem.W.typeIn K (.ref xc0) = some (.type "type"))
    (xa1 : PySem.W.nsIn K mainGlobals "NoCell" = some (some (.ref xc1))) (xe1 : PySem.W.excIn K xc1 bmVE "ValueError.__new__" = true) (xk1 : PySem.W.keepIn K (.ref xc1) = true) (xs1 : PySem.W.subIn K (.ref xc1) (.type "BaseException") = some true) (xt1 : PySem.W.typeIn K (.ref xc1) = some (.type "type"))
    (z0 : PySem.W.nsIn K mainGlobals "abs" = some none)
    (z1 : PySem.W.nsIn K mainGlobals "enumerate" = some none)
    (z2 : PySem.W.nsIn K mainGlobals "len" = some none)
    (z3 : PySem.W.nsIn K mainGlobals "list" = some none)
    (z4 : PySem.W.nsIn K mainGlobals "max" = some none)
    (z5 : PySem.W.nsIn K mainGlobals "min" = some none)
    (z6 : PySem.W.nsIn K mainGlobals "range" = some none)
    (z7 : PySem.W.nsIn K mainGlobals "tuple" = some none)
    (z8 : PySem.W.nsIn K mainGlobals "zip" = some none)
    : Hd K mg := ⟨df_mk (st := (topS 24)) X G a0 l0 c0 k0 fun _ _ _ _ _ _ us hl => match us, hl with | [_, _, _], _ => rfl,
    df_mk (st := (topS 25)) X G a1 l1 c1 k1 fun _ _ _ _ _ _ us hl => match us, hl with | [_, _, _], _ => rfl,
    df_mk (st := (topS 26)) X G a2 l2 c2 k2 fun _ _ _ _ _ _ us hl => match us, hl with | [_, _], _ => rfl,
    df_mk (st := (topS 27)) X G a3 l3 c3 k3 fun _ _ _ _ _ _ us hl => match us, hl with | [_, _, _, _, _], _ => rfl,
    df_mk (st := (topS 14)) X G a4 l4 c4 k4 fun _ _ _ _ _ _ us hl => match us, hl with | [_, _, _], _ => rfl,
    df_mk (st := (topS 15)) X G a5 l5 c5 k5 fun _ _ _ _ _ _ us hl => match us, hl with | [_], _ => rfl,
    df_mk (st := (topS 17)) X G a6 l6 c6 k6 fun _ _ _ _ _ _ us hl => match us, hl with | [_, _, _], _ => rfl,
    df_mk (st := (topS 16)) X G a7 l7 c7 k7 fun _ _ _ _ _ _ us hl => match us, hl with | [_], _ => rfl,
    df_mk (st := (topS 19)) X G a8 l8 c8 k8 fun _ _ _ _ _ _ us hl => match us, hl with | [_, _, _, _, _], _ => rfl,
    dfm_mk (st := (topS 20)) X G a9 l9 c9 k9 lc9 lt9 fun _ _ _ _ _ _ us hl => match us, hl with | [_, _, _, _], _ => rfl,
    df_mk (st := (topS 10)) X G a10 l10 c10 k10 fun _ _ _ _ _ _ us hl => match us, hl with | [_], _ => rfl,
    df_mk (st := (topS 7)) X G a11 l11 c11 k11 fun _ _ _ _ _ _ us hl => match us, hl with | [_, _], _ => rfl,
    df_mk (st := (topS 9)) X G a12 l12 c12 k12 fun _ _ _ _ _ _ us hl => match us, hl with | [_, _, _], _ => rfl,
    df_mk (st := (topS 8)) X G a13 l13 c13 k13 fun _ _ _ _ _ _ us hl => match us, hl with | [_, _], _ => rfl,
    df_mk (st := (topS 11)) X G a14 l14 c14 k14 fun _ _ _ _ _ _ us hl => match us, hl with | [_, _, _], _ => rfl,
    df_mk (st := (topS 12)) X G a15 l15 c15 k15 fun _ _ _ _ _ _ us hl => match us, hl with | [_, _], _ => rfl,
    dfmk_mk (st := (topS 21)) X G a16 l16 c16 k16 lc16 lt16 (.inr ⟨kD16, rfl, (kwd_cons kn16_0 ⟨_, rfl⟩ (kwd_cons kn16_1 ⟨_, rfl⟩ kwd_nil))⟩),
    df_mk (st := (topS 18)) X G a17 l17 c17 k17 fun _ _ _ _ _ _ us hl => match us, hl with | [_, _, _], _ => rfl,
    df_mk (st := (topS 28)) X G a18 l18 c18 k18 fun _ _ _ _ _ _ us hl => match us, hl with | [_], _ => rfl,
    of_decide_eq_true nd0,
    cg_tup (us := [.str "plain" ct0_0, .str "times" ct0_1, .str "screen" ct0_2, .str "dark" ct0_3, .str "light" ct0_4, .str "add" ct0_5, .str "less" ct0_6, .str "apart" ct0_7]) X G ca0 cl0 (by simp) (.str (.str (.str (.str (.str (.str (.str (.str .nil)))))))),
    cg_tup (us := [.int 0 ct1_0, .int 0 ct1_1, .int 0 ct1_2, .int 0 ct1_3]) X G ca1 cl1 (by simp) (.int (.int (.int (.int .nil)))),
    xk_mk X G xa0 xe0 xk0 xs0 xt0,
    xk_mk X G xa1 xe1 xk1 xs1 xt1,
    PySem.W.mg_none_of X G z0,
    PySem.W.mg_none_of X G z1,
    PySem.W.mg_none_of X G z2,
    PySem.W.mg_none_of X G z3,
    PySem.W.mg_none_of X G z4,
    PySem.W.mg_none_of X G z5,
    PySem.W.mg_none_of X G z6,
    PySem.W.mg_none_of X G z7,
    PySem.W.mg_none_of X G z8⟩
end Lw
open PySem PySem.W PyProof.Rows
set_option maxHeartbeats 0 in
theorem PySem.Challenge.cw_paintyard_k48_one_cell_laid_holds : PySem.Challenge.rw_paintyard_k48_one_cell_laid.Holds := by
  w_on; o_law; k_head; (case hw => w_witness2)
  k_fill
  first | refine LamX.walk_ofTs (l := PySem.Challenge.rw_paintyard_k48_one_cell_laid) (n := 63) (k := 15) (x := "_law_script") (CX := fun w => L2.CX PySem.Challenge.pw_paintyard_k48_one_cell_laid w) rfl (by decide) rfl ⟨rfl, by decide, by decide⟩ (fun w h Y => PySem.W.kIn_of Y) ?F (fun _ _ _ _ _ ⟨_, _, _, _, _, _, _, _, _, _, _, _, z⟩ => z) | refine LamX.walk_ofTs (l := PySem.Challenge.rw_paintyard_k48_one_cell_laid) (n := 63) (k := 15) (x := "_law_script") (CX := fun w => L2.CX PySem.Challenge.pw_paintyard_k48_one_cell_laid w) rfl (by decide) rfl ⟨rfl, by decide, by decide⟩ (fun w h Y => PySem.W.km_in_of Y) ?F (fun _ _ _ _ _ ⟨_, _, _, _, _, _, _, _, _, _, _, _, z⟩ => z)
  case F =>
    intro w mg fa h Y KX G hmg
    refine' Pm.lawAt ?tk0 (PySem.W.km_tabs_of Y) KX (Lw.all_ok (Lw.hd_mk KX G ?a0 ?l0 ?c0 ?k0 ?a1 ?l1 ?c1 ?k1 ?a2 ?l2 ?c2 ?k2 ?a3 ?l3 ?c3 ?k3 ?a4 ?l4 ?c4 ?k4 ?a5 ?l5 ?c5 ?k5 ?a6 ?l6 ?c6 ?k6 ?a7 ?l7 ?c7 ?k7 ?a8 ?l8 ?c8 ?k8 ?a9 ?l9 ?c9 ?k9 ?lc9 ?lt9 ?a10 ?l10 ?c10 ?k10 ?a11 ?l11 ?c11 ?k11 ?a12 ?l12 ?c12 ?k12 ?a13 ?l13 ?c13 ?k13 ?a14 ?l14 ?c14 ?k14 ?a15 ?l15 ?c15 ?k15 ?a16 ?l16 ?c16 ?k16 ?kn16_1 ?kn16_0 ?lc16 ?lt16 ?a17 ?l17 ?c17 ?k17 ?a18 ?l18 ?c18 ?k18 ?nd0 ?ca0 ?cl0 ?ca1 ?cl1 ?xa0 ?xe0 ?xk0 ?xs0 ?xt0 ?xa1 ?xe1 ?xk1 ?xs1 ?xt1 ?z0 ?z1 ?z2 ?z3 ?z4 ?z5 ?z6 ?z7 ?z8) hmg ?lt0)
    (case lt0 => exact Lw.law_true _ (by kernel_rfl) (by kernel_rfl))
    (case a0 => k_is); (case l0 => k_is); (case c0 => k_is); (case k0 => k_is); (case a1 => k_is); (case l1 => k_is); (case c1 => k_is); (case k1 => k_is); (case a2 => k_is); (case l2 => k_is); (case c2 => k_is); (case k2 => k_is); (case a3 => k_is); (case l3 => k_is); (case c3 => k_is); (case k3 => k_is); (case a4 => k_is); (case l4 => k_is); (case c4 => k_is); (case k4 => k_is); (case a5 => k_is); (case l5 => k_is); (case c5 => k_is); (case k5 => k_is); (case a6 => k_is); (case l6 => k_is); (case c6 => k_is); (case k6 => k_is); (case a7 => k_is); (case l7 => k_is); (case c7 => k_is); (case k7 => k_is); (case a8 => k_is); (case l8 => k_is); (case c8 => k_is); (case k8 => k_is); (case a9 => k_is); (case l9 => k_is); (case c9 => k_is); (case k9 => k_is); (case lc9 => k_is); (case lt9 => exact rfl); (case a10 => k_is); (case l10 => k_is); (case c10 => k_is); (case k10 => k_is); (case a11 => k_is); (case l11 => k_is); (case c11 => k_is); (case k11 => k_is); (case a12 => k_is); (case l12 => k_is); (case c12 => k_is); (case k12 => k_is); (case a13 => k_is); (case l13 => k_is); (case c13 => k_is); (case k13 => k_is); (case a14 => k_is); (case l14 => k_is); (case c14 => k_is); (case k14 => k_is); (case a15 => k_is); (case l15 => k_is); (case c15 => k_is); (case k15 => k_is); (case a16 => k_is); (case l16 => k_is); (case c16 => k_is); (case k16 => k_is); (case kn16_1 => k_is); (case kn16_0 => k_is); (case lc16 => k_is); (case lt16 => exact rfl); (case a17 => k_is); (case l17 => k_is); (case c17 => k_is); (case k17 => k_is); (case a18 => k_is); (case l18 => k_is); (case c18 => k_is); (case k18 => k_is); (case nd0 => kernel_rfl); (case ca0 => k_is); (case cl0 => k_is); (case ca1 => k_is); (case cl1 => k_is); (case xa0 => k_is); (case xe0 => k_exc); (case xk0 => k_is); (case xs0 => k_is); (case xt0 => k_is); (case xa1 => k_is); (case xe1 => k_exc); (case xk1 => k_is); (case xs1 => k_is); (case xt1 => k_is); (case z0 => k_is); (case z1 => k_is); (case z2 => k_is); (case z3 => k_is); (case z4 => k_is); (case z5 => k_is); (case z6 => k_is); (case z7 => k_is); (case z8 => k_is)
    (case tk0 => kernel_rfl)

